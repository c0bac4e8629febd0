/- a part of the proof -/
import Derived.Test.YtlgoebgnbkhmmaaGreatDoorZbp
set_option linter.all false
set_option maxHeartbeats 4000000
set_option maxRecDepth 10000
namespace Go.Va
open Int renaming natCast_add → qA, natCast_mul → qB, natCast_emod → qC, natCast_ediv → qD, natCast_pow → qE
open List renaming reduceReplicate → qF
open Go.Proofs
def Tf:List (List Nat):=(Ah [0,1,0,0,15,31,0,127])
@[simp]def Tw:List Seg:=[.any [] [18] [⟨0,[14],[18],[18],[]⟩,⟨0,[56],[18],[18],[]⟩,⟨0,[15],[18],[18],[]⟩,⟨0,[16],[18],[18],[]⟩,⟨0,[57,58,59],[18],[18],[]⟩,⟨0,[60],[18],[18],[]⟩,⟨1,[],[],[],[]⟩],.one]
def Rv(w:List UInt8)(k:Nat):Int:=if 3<k∧w=A7 3 then 3 else if 2<k∧w=A7 2 then 2 else if 1<k∧w=A7 1 then 1 else 0
theorem jiJ(w:List UInt8):Rv w 4=Kg w:=by
 unfold Rv Kg;simp
theorem jjr(w:List UInt8){k:Nat}(h1:1≤k)(h3:k≤3):Rv w (k+1)=if w=A7 k then (k:Int) else Rv w k:=by
 have ne:A7 1≠A7 2∧A7 1≠A7 3∧A7 2≠A7 3:=by decide
 obtain⟨n1,n2,n3⟩:=ne
 have hk:k=1∨k=2∨k=3:=by omega
 unfold Rv;rcases hk with rfl|rfl|rfl
 ·simp
 ·by_cases h:w=A7 2
  ·simp[h]
  ·simp[h]
 ·by_cases h:w=A7 3
  ·simp[h]
  ·simp[h]
theorem jn3(ns:List ByteArray)(hok:Mb ns)(hN:ns.length≤60)(hn: ∀s∈ns,s.size≤30)(s:ByteArray)(hs:s.size≤20000):
  ∃y:Grd,CallsF Tryz.prog 24 [.c (.str s),.c (A6 ns)] (.tup [.agg (y.ds.map .d),.c (.d (.bool (NF ns (B s)).isSome))])∧ ∀g,NF ns (B s)=some g→y=g:=by
 have z0:(⟨0,[]⟩:Grd).ds.map RC.d=[.d (.int .i64 0),.d (.slice 0 [])]:=rfl
 obtain⟨F,hF⟩: ∃F,F=NF ns (B s):=⟨_,rfl⟩
 rw[←hF]
 unfold NF at hF;simp only at hF;have kc:=Ph s { data:= #[105,102,32] } (by omega) (by decide)
 unfold N7 at kc;rw[show B { data:= #[105,102,32] }=[105,102,32] from rfl]at kc
 have j:=P8 (s:=B s) (sep:=[105,102,32]);generalize Lib.cut (B s) [105,102,32]=C at*;obtain⟨a,rest,o⟩:=C;simp only at*;cases o with
 |false=>
  rw[if_pos (.inl rfl)]at hF
  subst hF;refine⟨⟨0,[]⟩,?_,fun g h=>by cases h⟩
  rw[z0]
  refine cO Tryz.func24 rfl ?_;simp -implicitDefEqProofs[jJ,-qA,-qB]
  (first|refine Ac kc ?_|refine Ae kc ?_)
  simp -implicitDefEqProofs[jJ,-qA,-qB]
  try rfl
 |true=>
 have j:=congrArg List.length (j rfl);simp only[List.length_append,List.length_cons,List.length_nil,Hg]at j;by_cases ha:a=[]
 case neg=>
  rw[if_pos (.inr ha)]at hF
  subst hF;have eb:=U7 (Im ha);refine⟨⟨0,[]⟩,?_,fun g h=>by cases h⟩
  rw[z0]
  refine cO Tryz.func24 rfl ?_;simp -implicitDefEqProofs[jJ,-qA,-qB]
  (first|refine Ac kc ?_|refine Ae kc ?_)
  simp -implicitDefEqProofs[jJ,-qA,-qB,eb]
  try rfl
 subst ha;rw[if_neg (by simp)]at hF
 have eb:G6 .neq (Ch []) { data:= #[] }=some (vB false):=UQ _
 have kl:=jfk ns hN (Ch rest) (by rw[Ja];omega)
 rw[Mw]at kl
 cases hq:FM ns rest with
 |none=>
  rw[hq]at hF kl
  simp only at hF;unfold L3 at kl;subst hF;refine⟨⟨0,[]⟩,?_,fun g h=>by cases h⟩
  rw[z0]
  refine cO Tryz.func24 rfl ?_;simp -implicitDefEqProofs[jJ,-qA,-qB]
  (first|refine Ac kc ?_|refine Ae kc ?_)
  simp -implicitDefEqProofs[jJ,-qA,-qB,eb]
  (first|refine Ac kl ?_|refine Ae kl ?_)
  simp -implicitDefEqProofs[jJ,-qA,-qB]
  try rfl
 |some q=>
 rw[hq]at hF kl
 obtain⟨w,al,b,m,d⟩:=q
 unfold L3 at kl;simp only at hF kl;have kg:=joq ⟨Kg w,al⟩ ns hN hn;unfold Br at kg;refine⟨⟨Kg w,al⟩,?_,fun g h=> ?_⟩
 ·simp only[Grd.ds,List.map_cons,List.map_nil]at*;obtain⟨T,hT⟩: ∃T,T=[105,102,32]++Bq ns ⟨Kg w,al⟩:=⟨_,rfl⟩;rw[←hT]at kg hF;have hsome:F.isSome=decide (errG ns.length ⟨Kg w,al⟩=0∧T=B s):=by
   rw[hF]
   by_cases hc:errG ns.length ⟨Kg w,al⟩=0∧T=B s
   ·rw[if_pos hc,decide_eq_true hc];rfl
   ·rw[if_neg hc,decide_eq_false hc];rfl
  obtain⟨rr,hr⟩: ∃rr,rr=F.isSome:=⟨_,rfl⟩
  rw[←hr]
  rw[hsome]at hr
  clear hsome hF hT hq;generalize errG ns.length ⟨Kg w,al⟩=ee at*;refine cO Tryz.func24 rfl ?_;simp -implicitDefEqProofs[jJ,-qA,-qB]
  (first|refine Ac kc ?_|refine Ae kc ?_)
  simp -implicitDefEqProofs[jJ,-qA,-qB,eb]
  (first|refine Ac kl ?_|refine Ae kl ?_)
  simp -implicitDefEqProofs[jJ,-qA,-qB];refine AV (fun k:Nat=>⟨[(14,vI .i64 k),(13,vC (.ptr 13 0)),(9,vC (.d (.str (Ch w)))),(4,vC (.ptr 4 0)),(1,vC (.d (A6 ns))),(0,vC (.d (.str s)))],[(13,.box [.d (.int .i64 (Rv w k)),.d (AT al)]),(4,.box [.d (.int .i64 0),.nl])]⟩) (fun k=>1≤k∧k≤4) (fun k=>4 - k) 1 (by simp[AW,lk,St.le,vI,vC,Rv]) ⟨by omega,by omega⟩ ?_
  rintro k ⟨h1,h2⟩
  by_cases h:k≤3
  ·have kw:=jdy k;have e:=jjr w h1 h;rcases MK (Ch (A7 k)) (Ch w)with⟨q,qb⟩|⟨q,qb⟩
   ·rw[if_pos (by have:=congrArg B q;rw[Mw,Mw]at this;exact this.symm)]at e
    simp -implicitDefEqProofs[jJ,-qA,-qB,h]
    (first|refine Ac kw ?_|refine Ae kw ?_)
    simp -implicitDefEqProofs[jJ,-qA,-qB,qb]
    first|exact⟨by omega,k+1,⟨rfl,by rw[e]⟩,⟨by omega,by omega⟩,by omega⟩|exact⟨by omega,k+1,by rw[e],⟨by omega,by omega⟩,by omega⟩
   ·rw[if_neg (fun r=>q (congrArg Ch r.symm))]at e
    simp -implicitDefEqProofs[jJ,-qA,-qB,h]
    (first|refine Ac kw ?_|refine Ae kw ?_)
    simp -implicitDefEqProofs[jJ,-qA,-qB,qb]
    first|exact⟨by omega,k+1,⟨rfl,by rw[e]⟩,⟨by omega,by omega⟩,by omega⟩|exact⟨by omega,k+1,by rw[e],⟨by omega,by omega⟩,by omega⟩
  ·have hk:k=4:=by omega
   subst hk;rw[jiJ];by_cases he:ee=0
   ·subst he;rw[if_pos rfl]at kg;rcases MK (Ch T) s with⟨q,qb⟩|⟨q,qb⟩
    ·have hd:decide ((0:Int)=0∧T=B s)=true:=decide_eq_true ⟨rfl,by rw[←q];rfl⟩
     rw[hd]at hr
     subst hr;simp -implicitDefEqProofs[jJ,-qA,-qB]
     (first|refine Ac kg ?_|refine Ae kg ?_)
     simp -implicitDefEqProofs[jJ,-qA,-qB,qb]
    ·have hd:decide ((0:Int)=0∧T=B s)=false:=decide_eq_false fun r=>q (by rw[r.2];rfl)
     rw[hd]at hr
     subst hr;simp -implicitDefEqProofs[jJ,-qA,-qB]
     (first|refine Ac kg ?_|refine Ae kg ?_)
     simp -implicitDefEqProofs[jJ,-qA,-qB,qb]
   ·have hd:decide (ee=0∧T=B s)=false:=decide_eq_false fun r=>he r.1
    rw[hd]at hr
    subst hr;simp -implicitDefEqProofs[jJ,-qA,-qB]
    (first|refine Ac kg ?_|refine Ae kg ?_)
    simp -implicitDefEqProofs[jJ,-qA,-qB,he]
 ·rw[hF]at h
  split at h
  ·cases h;rfl
  ·cases h
theorem U5(s sep:List UInt8):(Lib.cut s sep).1.length≤s.length∧(Lib.cut s sep).2.1.length≤s.length:=by
 unfold Lib.cut;split
 ·simp only[A8,List.length_drop];omega
 ·simp
theorem V8{f:List UInt8→Option Int}: ∀{l:List (List UInt8)} {r:List Int},l.mapM f=some r→r.length=l.length
 |[],r,h=>by simp at h;subst h;rfl
 |x::l,r,h=>by
  rw[List.mapM_cons]at h
  cases hx:f x with
  |none=>rw[hx]at h;cases h
  |some a=>
   cases hl:l.mapM f with
   |none=>rw[hx,hl]at h;cases h
   |some b=>
    rw[hx,hl]at h
    cases h;rw[List.length_cons,List.length_cons,V8 hl]
theorem jnW{ns:List ByteArray}{s:List UInt8}{q}(h:FM ns s=some q):q.2.1.length≤s.length+1:=by
 have h1:=(U5 s [40]).2;have h2:=(Xj (Lib.cut s [40]).2.1.dropLast).1;have h3:(Lib.cut s [40]).2.1.dropLast.length≤s.length:=by rw[List.length_dropLast];omega
 unfold FM at h;simp only at h;split at h
 ·cases h
 split at h
 ·split at h
  ·cases h
  ·obtain⟨a,ha,rfl⟩:=jze.1 h
   have:=V8 ha
   rw[List.length_dropLast]at this
   simp only;omega
 ·obtain⟨a,ha,rfl⟩:=jze.1 h
  have:=V8 ha
  simp only;omega
theorem jcq{m:Nat}(h:m<mX 1000):(limbs m).length≤300:=Ew _ _ (Nat.lt_of_lt_of_le h (by unfold mX;decide+kernel))
theorem jpn(ns:List ByteArray)(hok:Mb ns)(hN:ns.length≤60)(hn: ∀s∈ns,s.size≤30)(s:ByteArray)(hs:s.size≤19000)(i:Nat)(hi:i≤99999):
  ∃y:Der,CallsF Tryz.prog 25 [.c (.str s),.c (.int .i64 i),.c (A6 ns)] (.tup [.agg (y.ds.map .d),.c (.d (.bool (LC ns i (B s)).isSome))])∧ ∀x,LC ns i (B s)=some x→y=x:=by
 obtain⟨F,hF⟩: ∃F,F=LC ns i (B s):=⟨_,rfl⟩
 rw[←hF]
 unfold LC at hF;simp only at hF;have z0:(Der.none).ds.map RC.d=[.d (.int .i64 0),.d (.slice 0 []),.d (.bool false),.d (.slice 0 []),.d (.slice 0 []),.d (.int .i64 0),.d (.slice 0 [])]:=rfl;have kc:=Ph s { data:= #[46,32] } (by omega) (by decide)
 unfold N7 at kc;rw[show B { data:= #[46,32] }=[46,32] from rfl]at kc
 have l1:=(U5 (B s) [46,32]).2;rw[Hg]at l1;generalize Lib.cut (B s) [46,32]=C at*;obtain⟨c1,rest,o⟩:=C;simp only at*;have kd:=Ph (Ch rest) { data:= #[41] } (by rw[Ja];omega) (by decide)
 unfold N7 at kd;rw[Mw,show B { data:= #[41] }=[41] from rfl]at kd
 obtain⟨l2,l3⟩:=U5 rest [41]
 generalize Lib.cut rest [41]=D at*;obtain⟨head,tail,o2⟩:=D;simp only at*;cases o with
 |false=>
  rw[if_pos (.inl rfl)]at hF
  subst hF;refine⟨.none,?_,fun x h=>by cases h⟩
  rw[z0]
  refine cO Tryz.func25 rfl ?_;simp -implicitDefEqProofs[jJ,-qA,-qB]
  (first|refine Ac kc ?_|refine Ae kc ?_)
  simp -implicitDefEqProofs[jJ,-qA,-qB]
  (first|refine Ac kd ?_|refine Ae kd ?_)
  simp -implicitDefEqProofs[jJ,-qA,-qB]
  try rfl
 |true=>
 cases o2 with
 |false=>
  rw[if_pos (.inr rfl)]at hF
  subst hF;refine⟨.none,?_,fun x h=>by cases h⟩
  rw[z0]
  refine cO Tryz.func25 rfl ?_;simp -implicitDefEqProofs[jJ,-qA,-qB]
  (first|refine Ac kc ?_|refine Ae kc ?_)
  simp -implicitDefEqProofs[jJ,-qA,-qB]
  (first|refine Ac kd ?_|refine Ae kd ?_)
  simp -implicitDefEqProofs[jJ,-qA,-qB]
  try rfl
 |true=>
 rw[if_neg (by simp)]at hF
 have kl:=jfk ns hN (Ch (head++[41])) (by rw[Ja,List.length_append,List.length_singleton];omega)
 rw[Mw]at kl
 have hb:G6 .add (Ch head) { data:= #[41] }=some (vC (.d (.str (Ch (head++[41]))))):=by
  simp only[G6,Dz];rw[if_pos (by rw[Ja];show head.length+1≤_;omega),jgT]
  rfl
 cases hq:FM ns (head++[41])with
 |none=>
  rw[hq]at hF kl
  simp only at hF;unfold L3 at kl;subst hF;have kK:=jd7 { data:= #[] };rw[show Pz (B { data:= #[] })=0 by decide]at kK
  refine⟨.none,?_,fun x h=>by cases h⟩
  rw[z0]
  generalize Ch (head++[41])=H1 at*;refine cO Tryz.func25 rfl ?_;simp -implicitDefEqProofs[jJ,-qA,-qB]
  (first|refine Ac kc ?_|refine Ae kc ?_)
  simp -implicitDefEqProofs[jJ,-qA,-qB]
  (first|refine Ac kd ?_|refine Ae kd ?_)
  simp -implicitDefEqProofs[jJ,-qA,-qB,hb]
  (first|refine Ac kl ?_|refine Ae kl ?_)
  simp -implicitDefEqProofs[jJ,-qA,-qB];refine AA Tf Tw (by rfl) ?_
  simp -implicitDefEqProofs[jJ,-qA,-qB]
  (first|refine Ac kK ?_|refine Ae kK ?_)
  simp -implicitDefEqProofs[jJ,-qA,-qB]
  try rfl
 |some q=>
 have q1:=Yv hq;have q2:=jnW hq;rw[List.length_append,List.length_singleton]at q2;rw[hq]at hF kl;clear hq;obtain⟨w,al,b,m,d⟩:=q;unfold L3 at kl;simp only at hF kl q1 q2;have kK:=jd7 (Ch w);rw[Mw]at kK;have kb:=Ph (Ch tail) { data:= #[32,98,121,32] } (by rw[Ja];omega) (by decide)
 unfold N7 at kb;rw[Mw,show B { data:= #[32,98,121,32] }=[32,98,121,32] from rfl]at kb
 have l4:=(U5 tail [32,98,121,32]).2;generalize Lib.cut tail [32,98,121,32]=E at*;obtain⟨b1,b2,o3⟩:=E;simp only at*;have hW: ∀r l,(⟨⟨Pz w,al,b,limbs m,limbs d⟩,r,l⟩:Der).fact.Wide:=fun r l=>⟨jcq q1.1,jcq q1.2,Aw _,Aw _,by simp only;omega⟩
 have kln:=fun r l h1 h2=>jkz i (by omega) ⟨⟨Pz w,al,b,limbs m,limbs d⟩,r,l⟩ ns (hW r l) h1 h2 hN hn
 generalize Pz w=kw at*;generalize Ch (head++[41])=H1 at*;by_cases hby:o3=true∧b1=[]
 ·rw[if_pos hby]at hF
  obtain⟨rfl,rfl⟩:=hby
  have kf:=jmV (Ch b2) (by rw[Ja];omega)
  rw[Mw]at kf
  have eb:G6 .eql (Ch []) { data:= #[] }=some (vB true):=Gw _
  cases hp:O0 b2 with
  |none=>
   rw[hp]at hF kf
   simp only at hF;unfold SB at kf;subst hF;refine⟨.none,?_,fun x h=>by cases h⟩
   rw[z0]
   refine cO Tryz.func25 rfl ?_;simp -implicitDefEqProofs[jJ,-qA,-qB]
   (first|refine Ac kc ?_|refine Ae kc ?_)
   simp -implicitDefEqProofs[jJ,-qA,-qB]
   (first|refine Ac kd ?_|refine Ae kd ?_)
   simp -implicitDefEqProofs[jJ,-qA,-qB,hb]
   (first|refine Ac kl ?_|refine Ae kl ?_)
   simp -implicitDefEqProofs[jJ,-qA,-qB];refine AA Tf Tw (by rfl) ?_
   simp -implicitDefEqProofs[jJ,-qA,-qB]
   (first|refine Ac kK ?_|refine Ae kK ?_)
   simp -implicitDefEqProofs[jJ,-qA,-qB]
   (first|refine Ac kb ?_|refine Ae kb ?_)
   simp -implicitDefEqProofs[jJ,-qA,-qB,eb]
   (first|refine Ac kf ?_|refine Ae kf ?_)
   simp -implicitDefEqProofs[jJ,-qA,-qB]
   try rfl
  |some p=>
  obtain⟨f1,f2⟩:=jbp hp
  rw[hp]at hF kf
  clear hp;obtain⟨r,fl⟩:=p;unfold SB at kf;simp only at hF kf f1 f2;have f3:fl.length≤20:=by have:=jnn r;omega
  have hlC:lenC (.d (AT fl))=some fl.length:=rfl
  by_cases hin: ∀a∈fl,0≤a∧a<(i:Int)
  ·have kln:=kln r fl f3 (fun a ha=>by have:=hin a ha;omega)
   unfold Br at kln;have hsome:F.isSome=decide (lineE ns.length ⟨⟨kw,al,b,limbs m,limbs d⟩,r,fl⟩=0∧CI ns i ⟨⟨kw,al,b,limbs m,limbs d⟩,r,fl⟩=B s):=by
    rw[hF]
    split
    ·rename_i h;rw[decide_eq_true h.2];rfl
    ·rename_i h;rw[decide_eq_false fun q=>h ⟨hin,q⟩];rfl
   refine⟨⟨⟨kw,al,b,limbs m,limbs d⟩,r,fl⟩,?_,fun x h=> ?_⟩
   ·obtain⟨rr,hr⟩: ∃rr,rr=F.isSome:=⟨_,rfl⟩
    rw[←hr]
    rw[hsome]at hr
    clear hsome hF hW;simp only[Der.ds,Fct.ds,List.map_cons,List.map_nil,List.cons_append,List.nil_append]at*;generalize CI ns i ⟨⟨kw,al,b,limbs m,limbs d⟩,r,fl⟩=T at*;generalize lineE ns.length ⟨⟨kw,al,b,limbs m,limbs d⟩,r,fl⟩=ee at*;refine cO Tryz.func25 rfl ?_;simp -implicitDefEqProofs[jJ,-qA,-qB]
    (first|refine Ac kc ?_|refine Ae kc ?_)
    simp -implicitDefEqProofs[jJ,-qA,-qB]
    (first|refine Ac kd ?_|refine Ae kd ?_)
    simp -implicitDefEqProofs[jJ,-qA,-qB,hb]
    (first|refine Ac kl ?_|refine Ae kl ?_)
    simp -implicitDefEqProofs[jJ,-qA,-qB];refine AA Tf Tw (by rfl) ?_
    simp -implicitDefEqProofs[jJ,-qA,-qB]
    (first|refine Ac kK ?_|refine Ae kK ?_)
    simp -implicitDefEqProofs[jJ,-qA,-qB]
    (first|refine Ac kb ?_|refine Ae kb ?_)
    simp -implicitDefEqProofs[jJ,-qA,-qB,eb]
    (first|refine Ac kf ?_|refine Ae kf ?_)
    simp -implicitDefEqProofs[jJ,-qA,-qB];refine AV (fun k:Nat=>⟨[(25,vI .i64 k),(18,vC (.ptr 18 0)),(6,vC (.ptr 6 0)),(1,vI .i64 i),(2,vC (.d (A6 ns))),(0,vC (.d (.str s)))],
     [(18,.box [.d (.int .i64 kw),.d (AT al),.d (.bool b),.d (Ad (limbs m)),.d (Ad (limbs d)),.d (.int .i64 r),.d (AT fl)]),(6,.box [.d (.int .i64 0),.nl,.d (.bool false),.nl,.nl,.d (.int .i64 0),.nl])]⟩)
     (fun k=>k≤fl.length) (fun k=>fl.length - k) 0 (by simp[AW,lk,St.le,vI,vC]) (by omega) ?_
    rintro k hk
    by_cases h:k<fl.length
    ·obtain⟨a0,a1⟩:=hin _ (AZ h)
     obtain⟨a,ha⟩: ∃a,fl[k]=a:=⟨_,rfl⟩
     rw[ha]at a0 a1
     have e0: ¬a<0:=by omega
     have e1: ¬(i:Int)≤a:=by omega
     simp -implicitDefEqProofs[jJ,-qA,-qB,h,hlC,ha,i64,e0,e1];exact⟨by omega,by omega,by omega⟩
    ·by_cases he:ee=0
     ·subst he;rw[if_pos rfl]at kln;rcases MK (Ch T) s with⟨q,qb⟩|⟨q,qb⟩
      ·rw[show decide ((0:Int)=0∧T=B s)=true from decide_eq_true ⟨rfl,by rw[←q];rfl⟩]at hr
       subst hr;simp -implicitDefEqProofs[jJ,-qA,-qB,h,hlC]
       (first|refine Ac kln ?_|refine Ae kln ?_)
       simp -implicitDefEqProofs[jJ,-qA,-qB,qb]
      ·rw[show decide ((0:Int)=0∧T=B s)=false from decide_eq_false fun r=>q (by rw[r.2];rfl)]at hr
       subst hr;simp -implicitDefEqProofs[jJ,-qA,-qB,h,hlC]
       (first|refine Ac kln ?_|refine Ae kln ?_)
       simp -implicitDefEqProofs[jJ,-qA,-qB,qb]
     ·rw[show decide (ee=0∧T=B s)=false from decide_eq_false fun r=>he r.1]at hr
      subst hr;simp -implicitDefEqProofs[jJ,-qA,-qB,h,hlC]
      (first|refine Ac kln ?_|refine Ae kln ?_)
      simp -implicitDefEqProofs[jJ,-qA,-qB,he]
   ·rw[hF]at h
    split at h
    ·cases h;rfl
    ·cases h
  ·have hF0:F=none:=by rw[hF,if_neg fun q=>hin q.1]
   subst hF0;refine⟨.none,?_,fun x h=>by cases h⟩
   rw[z0]
   clear hW kln;refine cO Tryz.func25 rfl ?_;simp -implicitDefEqProofs[jJ,-qA,-qB]
   (first|refine Ac kc ?_|refine Ae kc ?_)
   simp -implicitDefEqProofs[jJ,-qA,-qB]
   (first|refine Ac kd ?_|refine Ae kd ?_)
   simp -implicitDefEqProofs[jJ,-qA,-qB,hb]
   (first|refine Ac kl ?_|refine Ae kl ?_)
   simp -implicitDefEqProofs[jJ,-qA,-qB];refine AA Tf Tw (by rfl) ?_
   simp -implicitDefEqProofs[jJ,-qA,-qB]
   (first|refine Ac kK ?_|refine Ae kK ?_)
   simp -implicitDefEqProofs[jJ,-qA,-qB]
   (first|refine Ac kb ?_|refine Ae kb ?_)
   simp -implicitDefEqProofs[jJ,-qA,-qB,eb]
   (first|refine Ac kf ?_|refine Ae kf ?_)
   simp -implicitDefEqProofs[jJ,-qA,-qB];refine AV (fun k:Nat=>⟨[(25,vI .i64 k),(18,vC (.ptr 18 0)),(6,vC (.ptr 6 0)),(1,vI .i64 i),(2,vC (.d (A6 ns))),(0,vC (.d (.str s)))],
    [(18,.box [.d (.int .i64 kw),.d (AT al),.d (.bool b),.d (Ad (limbs m)),.d (Ad (limbs d)),.d (.int .i64 r),.d (AT fl)]),(6,.box [.d (.int .i64 0),.nl,.d (.bool false),.nl,.nl,.d (.int .i64 0),.nl])]⟩)
    (fun k=>k≤fl.length∧ ∀a∈fl.take k,0≤a∧a<(i:Int)) (fun k=>fl.length - k) 0 (by simp[AW,lk,St.le,vI,vC]) ⟨by omega,fun a ha=>by simp at ha⟩ ?_
   rintro k ⟨hk,hkd⟩
   by_cases h:k<fl.length
   ·obtain⟨a,ha⟩: ∃a,fl[k]=a:=⟨_,rfl⟩
    by_cases e0:a<0
    ·simp -implicitDefEqProofs[jJ,-qA,-qB,h,hlC,ha,i64,e0]
     try rfl
    ·by_cases e1:(i:Int)≤a
     ·simp -implicitDefEqProofs[jJ,-qA,-qB,h,hlC,ha,i64,e0,e1]
      try rfl
     ·simp -implicitDefEqProofs[jJ,-qA,-qB,h,hlC,ha,i64,e0,e1];refine⟨by omega,⟨by omega,fun x hx=> ?_⟩,by omega⟩
      rw[Cr h,ha]at hx
      rcases List.mem_append.1 hx with hx|hx
      ·exact hkd x hx
      ·rw[List.mem_singleton.1 hx];exact⟨by omega,by omega⟩
   ·rw[Ba (by omega)]at hkd
    exact absurd hkd hin
 ·rw[if_neg hby]at hF
  have kln:=kln 0 [] (by simp) (fun a ha=>by cases ha)
  unfold Br at kln;simp only at hF;have hsome:F.isSome=decide (lineE ns.length ⟨⟨kw,al,b,limbs m,limbs d⟩,0,[]⟩=0∧CI ns i ⟨⟨kw,al,b,limbs m,limbs d⟩,0,[]⟩=B s):=by
   rw[hF]
   split
   ·rename_i h;rw[decide_eq_true h.2];rfl
   ·rename_i h;rw[decide_eq_false fun q=>h ⟨(fun a ha=>by cases ha),q⟩];rfl
  refine⟨⟨⟨kw,al,b,limbs m,limbs d⟩,0,[]⟩,?_,fun x h=> ?_⟩
  ·obtain⟨rr,hr⟩: ∃rr,rr=F.isSome:=⟨_,rfl⟩
   rw[←hr]
   rw[hsome]at hr
   clear hsome hF hW;simp only[Der.ds,Fct.ds,List.map_cons,List.map_nil,List.cons_append,List.nil_append]at*
   change CallsF _ _ [_,.agg [_,_,_,_,_,_,.slice 0 []],_] _ at kln
   generalize CI ns i ⟨⟨kw,al,b,limbs m,limbs d⟩,0,[]⟩=T at*;generalize lineE ns.length ⟨⟨kw,al,b,limbs m,limbs d⟩,0,[]⟩=ee at*;have hw:(o3=false∧True)∨(o3=true∧G6 .eql (Ch b1) { data:= #[] }=some (vB false)):=by
    cases o3 with
    |false=>exact .inl ⟨rfl,trivial⟩
    |true=>exact .inr ⟨rfl,IY (Im fun e=>hby ⟨rfl,e⟩)⟩
   clear hby;rcases hw with⟨rfl,eb⟩|⟨rfl,eb⟩
   all_goals
    refine cO Tryz.func25 rfl ?_;simp -implicitDefEqProofs[jJ,-qA,-qB]
    (first|refine Ac kc ?_|refine Ae kc ?_)
    simp -implicitDefEqProofs[jJ,-qA,-qB]
    (first|refine Ac kd ?_|refine Ae kd ?_)
    simp -implicitDefEqProofs[jJ,-qA,-qB,hb]
    (first|refine Ac kl ?_|refine Ae kl ?_)
    simp -implicitDefEqProofs[jJ,-qA,-qB];refine AA Tf Tw (by rfl) ?_
    simp -implicitDefEqProofs[jJ,-qA,-qB]
    (first|refine Ac kK ?_|refine Ae kK ?_)
    simp -implicitDefEqProofs[jJ,-qA,-qB]
    (first|refine Ac kb ?_|refine Ae kb ?_)
    simp -implicitDefEqProofs[jJ,-qA,-qB,eb];refine AV (fun _:Unit=>⟨[(25,vI .i64 0),(18,vC (.ptr 18 0)),(6,vC (.ptr 6 0)),(1,vI .i64 i),(2,vC (.d (A6 ns))),(0,vC (.d (.str s)))],
     [(18,.box [.d (.int .i64 kw),.d (AT al),.d (.bool b),.d (Ad (limbs m)),.d (Ad (limbs d)),.d (.int .i64 0),.nl]),(6,.box [.d (.int .i64 0),.nl,.d (.bool false),.nl,.nl,.d (.int .i64 0),.nl])]⟩)
     (fun _=>True) (fun _=>0) () (by simp[AW,lk,St.le,vI,vC]) trivial ?_
    rintro _ _
    by_cases he:ee=0
    ·subst he;rw[if_pos rfl]at kln;rcases MK (Ch T) s with⟨q,qb⟩|⟨q,qb⟩
     ·rw[show decide ((0:Int)=0∧T=B s)=true from decide_eq_true ⟨rfl,by rw[←q];rfl⟩]at hr
      subst hr;simp -implicitDefEqProofs[jJ,-qA,-qB]
      (first|refine Ac kln ?_|refine Ae kln ?_)
      simp -implicitDefEqProofs[jJ,-qA,-qB,qb]
      try rfl
     ·rw[show decide ((0:Int)=0∧T=B s)=false from decide_eq_false fun r=>q (by rw[r.2];rfl)]at hr
      subst hr;simp -implicitDefEqProofs[jJ,-qA,-qB]
      (first|refine Ac kln ?_|refine Ae kln ?_)
      simp -implicitDefEqProofs[jJ,-qA,-qB,qb]
      try rfl
    ·rw[show decide (ee=0∧T=B s)=false from decide_eq_false fun r=>he r.1]at hr
     subst hr;simp -implicitDefEqProofs[jJ,-qA,-qB]
     (first|refine Ac kln ?_|refine Ae kln ?_)
     simp -implicitDefEqProofs[jJ,-qA,-qB,he]
     try rfl
  ·rw[hF]at h
   split at h
   ·cases h;rfl
   ·cases h
end Go.Va
