/- a part of the proof -/
import Derived.Test.YtplacedebenpaaaGreatDoorEbi
import Derived.Test.YtplacedebenpaaaGreatDoorEbj
import Derived.Test.YtplacedebenpaaaGreatDoorEbf
set_option linter.all false
set_option maxHeartbeats 4000000
set_option maxRecDepth 10000
namespace Go.Va
open _root_.List renaming map_set → aD, drop_length → aG, flatMap_eq_nil_iff → aI, any_eq_true → aL, replicate → aM, any_cons → aN, drop → aP
open _root_.Nat renaming sub_self → aH, add_sub_cancel_left → aJ, le_trans → aO
open Int renaming natCast_add → qA, natCast_mul → qB, natCast_emod → qC, natCast_ediv → qD, natCast_pow → qE
open List renaming reduceReplicate → qF
open Go.Proofs Go.Proofs.Tryz
def joo:List (List Nat):=(Ah [0,0,3,7,0,31])
@[simp]def jss:List Seg:=[.any [] [] (Aq [[1],[9],[22,23],[24],[6]]),.one]
def jey:List (List Nat):=(Ah [0,0,2,7,15,31,31,127,255,511,31,2047,4095,8191])
@[simp]def jc5:List Seg:=[.any [] [] (Aq [[10],[0],[30]]),.one,.one,.any [] [] (Aq [[0,33],[10,33],[34,35,33],[36,33],[37,33],[6,33]]),.one,.one,.one]
def jhL:List (List Nat):=(Ah [0,0,2,7,15,31,31,127,255,511,31,2047,4095])
@[simp]def jh7:List Seg:=[.any [] [] (Aq [[10],[0],[46]]),.one,.one,.any [] [] (Aq [[0,49],[10,49],[50,51,49],[52,49],[53,49],[6,49]]),.one,.one]
def jq1:List (List Nat):=(Ah [0,0,0,6,15,0,0,96,224,511,0,0,3072,8191,16383])
@[simp]def jsA:List Seg:=[.any [] [71,75,79,80] [⟨1,[],[79],[75,79,80],[]⟩,⟨0,[0],[71,79],[71,75,79,80],[]⟩,⟨0,[10],[71,79],[71,75,79,80],[]⟩,⟨0,[72,73],[71,79],[71,75,79,80],[]⟩,⟨3,[71,74],[79],[79,80],[71]⟩,⟨0,[6],[71,75],[71,75,79,80],[]⟩,⟨0,[3],[71,75],[71,75,79,80],[]⟩,⟨0,[76,77],[71,75],[71,75,79,80],[]⟩,⟨1,[78],[71,75],[71,75,80],[]⟩,⟨3,[75,79],[],[],[75]⟩,⟨0,[0],[71,75,79,80],[71,75,79,80],[]⟩,⟨0,[10],[71,75,79,80],[71,75,79,80],[]⟩,⟨0,[81,82],[71,75,79,80],[71,75,79,80],[]⟩],.one,.one]
theorem jgT(F:Fct)(g:List Grd): ∀(p:Nat) (l:List Fnd),p<=l.length->(∀j (f:j<l.length),j<p->C2 l[j].fact F<0)->LW F g l=l.take p++LW F g (l.drop p)
 |0,l,_,_=>rfl
 |p+1,[],h,_=>by simp at h
 |p+1,a::l,h,e=>by
  have b:=e 0 O1 O;have i:=jgT F g p l (by simpa using h) (λj f k=>e (j+1) (by simpa using f) O);simp only[List.getElem_cons_zero]at b;rw[LW,if_pos b,List.take_succ_cons,List.drop_succ_cons,i];rfl
variable{F:Fct}{g:List Grd}{l:List Fnd}
theorem jwj(b: ∀j (a:j<l.length),C2 l[j].fact F<0):LW F g l=l++[⟨F,g⟩]:=by
 rw[jgT F g l.length l (AO _) (λj a _=>b j a),BM,aG];rfl
theorem jw5{p:Nat}(h:p<l.length)(b: ∀j (hj:j<l.length),j<p->C2 l[j].fact F<0)(a:C2 l[p].fact F=0):LW F g l=if KZ g l[p].grds then l.set p ⟨l[p].fact,g⟩ else l:=by
 rw[jgT F g p l O b,BQ h,LW,if_neg O,if_pos a];split
 ·rw[List.set_eq_take_append_cons_drop,if_pos h]
 ·rw[<-BQ h,List.take_append_drop]
theorem juJ{p:Nat}(h:p<l.length)(e: ∀j (hj:j<l.length),j<p->C2 l[j].fact F<0)(a: ¬C2 l[p].fact F<0)(b: ¬C2 l[p].fact F=0):LW F g l=l.take p++⟨F,g⟩::l.drop p:=by
 rw[jgT F g p l O e,BQ h,LW,if_neg a,if_neg b]
theorem jym(l:List Fnd)(i:Nat)(h:i<l.length):((l.flatMap Fnd.ds).map C.d|>.drop (i*6)).take 5=[.d (.int .i64 l[i].fact.kind),.d (AT l[i].fact.args),.d (.bool l[i].fact.neg),.d (Ad l[i].fact.abs),.d (Ad l[i].fact.den)]:=by
 have a:((l.flatMap Fnd.ds).drop (i*6)).take 6=l[i].ds:=Ic Fnd.ds_len l i h;have b:((l.flatMap Fnd.ds).drop (i*6)).take 5=(l[i].ds).take 5:=by rw[<-a,List.take_take];rfl
 rw[<-List.map_drop,<-List.map_take,b];rfl
theorem jAT(l:List Fnd)(i:Nat)(h:i<l.length):(l.flatMap Fnd.ds)[i*6+5]? =some (Dd l[i].grds):=by
 rw[jlO l i 5 h O];rfl
theorem jsZ{F:Fct}(b:F.Rt): ∀nl:List Fct,(∀x∈nl,x.Rt)->QD F nl=nl.any λa=>decide (C2 a F=0)
 |[],_=>rfl
 |a::nl,h=>by
  have f:=jsZ b nl λx g=>h x (by simp[g]);have e:=h a O1;unfold QD at f ⊢;rw[aN,aN,f];congr 1;exact decide_eq_decide.2 ((WZ b e).trans (eq_comm.trans (WZ e b).symm))
def GK(g:List Grd):Prop:= ∀x∈g,x.Short/\ -1000<=x.kind/\x.kind<=1000
theorem jib(nl:List Fct)(l:List Fnd)(f:Fct)(g:List Grd)(o: ∀x∈nl,x.Rt)(hnn:nl.length<=1000)(q: ∀x∈l,x.fact.Rt/\GK x.grds)(hll:l.length<=100000000000)(Y:f.Mild)(p:(normF f).Rt)(M:GK g)(hgl:g.length<=1000):
  CallsA prog 196 6 l.length (l.flatMap Fnd.ds) [.c (C1 nl),.agg f.ds,.c (Dd g)] (noteR nl l f g).length ((noteR nl l f g).flatMap Fnd.ds):=by
 have k1:=jf7 f Y;unfold noteR;generalize hF:normF f=F at*;clear hF Y;have k2:=jyR F p.mild;have H:=λi (h:i<nl.length)=>jkj nl[i] F (o _ (AZ h)).mild p.mild (o _ (AZ h)).val p.val;have E:=λi (h:i<l.length)=>jnc l[i].fact F (q _ (AZ h)).1.mild p.mild (q _ (AZ h)).1.val p.val;have I:=λi (h:i<l.length)=>jkj l[i].fact F (q _ (AZ h)).1.mild p.mild (q _ (AZ h)).1.val p.val;have J:=λi (h:i<l.length)=>jvt g l[i].grds (λx P=>(M x P).1) (λx P=>((q _ (AZ h)).2 x P).1) O (λa L b X=> .inr ⟨(M a L).2.1,(M a L).2.2,((q _ (AZ h)).2 b X).2.1,((q _ (AZ h)).2 b X).2.2⟩);have S:=jsZ p nl o;rw[S];clear S;generalize N:(nl.any λa=>decide (C2 a F=0))=B;simp only[jwf]at J;simp only[Fct.ds,Fct.res]at*;clear M q o p;refine Rc (T:=tb) Ak mixed func196 rfl O2 (Al rfl) rfl ?_;unfold St.initA;simp -implicitDefEqProofs[jJ,-qA,-qB,-aD,-qF,BK];refine Ac k1 ?_;simp -implicitDefEqProofs[jJ,-qA,-qB,-aD,-qF];refine Ac k2 ?_;cases ht:RQ F with
 |true=>
  simp -implicitDefEqProofs[jJ,-qA,-qB,-aD,-qF,Sz]
 |false=>
  simp only[Bool.false_eq_true,false_or];simp -implicitDefEqProofs[jJ,-qA,-qB,-aD,-qF];refine AV (λi:Nat=>⟨[(9,vI .i64 i),(8,vC (.sl 8 0 0)),(6,vC (.ptr 6 0)),(0,vC (.sl 2000000 0 l.length)),(1,vC (.d (C1 nl))),(3,vC (.d (Dd g)))],
   [(6,.box [.d (.int .i64 F.kind),.d (AT F.args),.d (.bool F.neg),.d (Ad F.abs),.d (Ad F.den)]),(8,.row 6 [] true),(2000000,.row 6 (l.flatMap Fnd.ds) true)]⟩)
   (λi=>i<=nl.length/\ ∀j (k:j<nl.length),j<i->C2 nl[j] F≠0) (λi=>nl.length - i) 0 (by simp[AW,lk,St.le,vI,vC]) ⟨O,O⟩ ?_
  rintro i ⟨hi,w⟩;by_cases h:i<nl.length
  ·have H:=H i h;have Q:=VX h;by_cases z:C2 nl[i] F=0
   ·obtain rfl:B=true:=N.symm.trans (aL.2 ⟨nl[i],AZ h,by simpa using z⟩);simp -implicitDefEqProofs[jJ,-qA,-qB,-aD,-qF,h];refine AA joo jss O5 ?_;simp -implicitDefEqProofs[jJ,-qA,-qB,-aD,-qF,h,Q];refine Ac H ?_;simp -implicitDefEqProofs[jJ,-qA,-qB,-aD,-qF,z,Sz]
   ·simp -implicitDefEqProofs[jJ,-qA,-qB,-aD,-qF,h];refine AA joo jss O5 ?_;simp -implicitDefEqProofs[jJ,-qA,-qB,-aD,-qF,h,Q];refine Ac H ?_;simp -implicitDefEqProofs[jJ,-qA,-qB,-aD,-qF,z];exact⟨O,⟨O,λj k hp=>if e:j=i then by subst e;exact z else w j k O⟩,O⟩
  ·have v:i=nl.length:=O;subst v;obtain rfl:B=false:=by
    rw[<-N,Bool.eq_false_iff];intro hc;obtain⟨a,L,z⟩:=aL.1 hc;obtain⟨j,k,rfl⟩:=List.mem_iff_getElem.1 L;exact w j k k (by simpa using z)
   clear N w H hi h;simp -implicitDefEqProofs[jJ,-qA,-qB,-aD,-qF];refine AV (λi:Nat=>⟨[(10,vI .i64 i),(8,vC (.sl 8 0 0)),(6,vC (.ptr 6 0)),(0,vC (.sl 2000000 0 l.length)),(1,vC (.d (C1 nl))),(3,vC (.d (Dd g)))],
    [(6,.box [.d (.int .i64 F.kind),.d (AT F.args),.d (.bool F.neg),.d (Ad F.abs),.d (Ad F.den)]),(8,.row 6 [] true),(2000000,.row 6 (l.flatMap Fnd.ds) true)]⟩)
    (λi=>i<=l.length/\ ∀j (k:j<l.length),j<i->C2 l[j].fact F<0) (λi=>l.length - i) 0 (by simp[AW,lk,St.le,vI,vC]) ⟨O,O⟩ ?_
   rintro i ⟨hi,m⟩;by_cases h:i<l.length
   ·have E:=E i h;have I:=I i h;have J:=J i h;have t:=jym l i h;have W:=jAT l i h;have r:i*6+5<=l.length*6:=O;by_cases y:C2 l[i].fact F<0
    ·simp -implicitDefEqProofs[jJ,-qA,-qB,-aD,-qF];refine AA jey jc5 O5 ?_;simp -implicitDefEqProofs[jJ,-qA,-qB,-aD,-qF,h,t,r];refine Ac E ?_;simp -implicitDefEqProofs[jJ,-qA,-qB,-aD,-qF,y];exact⟨O,⟨O,λj k hp=>if e:j=i then by subst e;exact y else m j k O⟩,O⟩
    ·by_cases G:C2 l[i].fact F=0
     ·have eI:=jw5 (g:=g) h m G;by_cases K:KZ g l[i].grds=true
      ·rw[if_pos K]at eI;have st:=jtl l i g h;simp -implicitDefEqProofs[jJ,-qA,-qB,-aD,-qF];refine AA jey jc5 O5 ?_;simp -implicitDefEqProofs[jJ,-qA,-qB,-aD,-qF,h,t,r];refine Ac E ?_;simp -implicitDefEqProofs[jJ,-qA,-qB,-aD,-qF,y];refine AA jhL jh7 O5 ?_;simp -implicitDefEqProofs[jJ,-qA,-qB,-aD,-qF,h,t,r];refine Ac I ?_;simp -implicitDefEqProofs[jJ,-qA,-qB,-aD,-qF,G,W,h];refine Ac J ?_;simp -implicitDefEqProofs[jJ,-qA,-qB,-aD,-qF,K,h,st,Sz,eI];omega
      ·rw[if_neg K]at eI;simp -implicitDefEqProofs[jJ,-qA,-qB,-aD,-qF];refine AA jey jc5 O5 ?_;simp -implicitDefEqProofs[jJ,-qA,-qB,-aD,-qF,h,t,r];refine Ac E ?_;simp -implicitDefEqProofs[jJ,-qA,-qB,-aD,-qF,y];refine AA jhL jh7 O5 ?_;simp -implicitDefEqProofs[jJ,-qA,-qB,-aD,-qF,h,t,r];refine Ac I ?_;simp -implicitDefEqProofs[jJ,-qA,-qB,-aD,-qF,G,W,h];refine Ac J ?_;simp -implicitDefEqProofs[jJ,-qA,-qB,-aD,-qF,K,Sz,eI]
     ·have eI:=juJ (g:=g) h m y G;simp -implicitDefEqProofs[jJ,-qA,-qB,-aD,-qF];refine AA jey jc5 O5 ?_;simp -implicitDefEqProofs[jJ,-qA,-qB,-aD,-qF,h,t,r];refine Ac E ?_;simp -implicitDefEqProofs[jJ,-qA,-qB,-aD,-qF,y];refine AA jhL jh7 O5 ?_;simp -implicitDefEqProofs[jJ,-qA,-qB,-aD,-qF,h,t,r];refine Ac I ?_;simp -implicitDefEqProofs[jJ,-qA,-qB,-aD,-qF,G];refine AA jq1 jsA O5 ?_;simp -implicitDefEqProofs[jJ,-qA,-qB,-aD,-qF,Sz];refine⟨O,O,⟨O,O⟩,O,⟨O,O⟩,O,O,O,⟨O,O⟩,?_⟩;have Z:List.take ((l.length - i)*6) (aP (i*6) (l.flatMap Fnd.ds))=(l.drop i).flatMap Fnd.ds:=by
       rw[jdj Fnd.ds_len,Ba];rw[jie,List.length_drop];omega
      refine⟨84,⟨rfl,by rw[eI];simp;omega⟩,?_⟩;rw[Z,jd2 Fnd.ds_len,eI];simp[Fnd.ds]
   ·have v:i=l.length:=O;subst v;have eI:=jwj (g:=g) (λj k=>m j k k);simp -implicitDefEqProofs[jJ,-qA,-qB,-aD,-qF];refine AA jey jc5 O5 ?_;simp -implicitDefEqProofs[jJ,-qA,-qB,-aD,-qF];refine AA jhL jh7 O5 ?_;simp -implicitDefEqProofs[jJ,-qA,-qB,-aD,-qF];refine AA jq1 jsA O5 ?_;simp -implicitDefEqProofs[jJ,-qA,-qB,-aD,-qF,Sz];refine⟨⟨O,O⟩,⟨O,O⟩,O,⟨O,O⟩,84,⟨rfl,by rw[eI];simp⟩,?_⟩;rw[eI];simp[Fnd.ds]
def jmr:List (List Nat):=(Ah [0,1,3,7,15,31,63,127,255,31,31,1567,3615,8191,16383])
@[simp]def jnf:List Seg:=[.one,.one,.one,.one,.one,.any [] [] (Aq [[9,25],[5,26,25],[27,25],[28,25],[1,25],[8,25],[30,31,25],[32,25]]),.one,.one]
def i16(x:Int):D:= .int .i16 x
def Nmz.ds(b:Nmz):List D:=b.v.map i16
def Nmz.cs(b:Nmz):List C:=b.v.map λx=> .d (i16 x)
def Nmz.rs(b:Nmz):List RC:=b.v.map λx=> .d (i16 x)
section
variable (b:Nmz)
@[simp]theorem Nmz.cs_len:b.cs.length=26:=by simp[Nmz.cs,b.h]
@[simp]theorem Nmz.ds_len:b.ds.length=26:=by simp[Nmz.ds,b.h]
@[simp]theorem Nmz.map_ds:b.ds.map C.d=b.cs:=by simp[Nmz.cs,Nmz.ds]
@[simp]theorem Nmz.on_cs(g:Nat->C->C):b.cs.map (C.on g)=b.cs:=by simp[Nmz.cs]
@[simp]theorem Nmz.take_cs:b.cs.take 26=b.cs:=Ba O1
@[simp]theorem Nmz.splice_rep(z:C):splice 0 b.cs (aM 26 z)=b.cs:=by simp[splice]
@[simp]theorem Nmz.splice_cs(a:Nmz):splice 0 b.cs a.cs=b.cs:=by simp[splice,DU]
@[simp]theorem Nmz.toD_cs(ok:Nat->Bool)(h:List (Nat×Blk))(k:Nat):b.cs.mapM (toD ok h k)=some b.ds:=by
 unfold Nmz.cs Nmz.ds
 induction b.v with
 |nil=>rfl
 |cons a r e=>
  have:toD ok h k (.d (i16 a))=some (i16 a):=by cases k<;>rfl
  simp only[List.map_cons,List.mapM_cons,this,e];rfl
theorem Nmz.id_cs: ∀c∈b.cs,c.id? =none:=λc a=>by
 unfold Nmz.cs at a;obtain⟨x,_,rfl⟩:=jzk.1 a;rfl
@[simp]theorem Nmz.reach_cs(h:List (Nat×Blk))(k:Nat):DZ h k b.cs=[]:=jqO h k _ b.id_cs
@[simp]theorem Nmz.flatMap_reach(f:C->List Nat)(e: ∀c,c.id? =none->f c=[]):b.cs.flatMap f=[]:=aI.2 λc a=>e c (b.id_cs c a)
@[simp]theorem Nmz.noIds_cs:b.cs.all (λc=>c.id?.isNone)=true:=jzy.2 λc a=>by rw[b.id_cs c a];rfl
@[simp]theorem Nmz.men_cs(d:Nat):b.cs.any (C.men d)=false:=List.any_eq_false.2 λc a=>by simp[C.men,b.id_cs c a]
@[simp]theorem Nmz.imp_rs(k:Nat):b.rs.map (RC.imp k)=b.cs:=by simp[Nmz.cs,Nmz.rs,RC.imp]
@[simp]theorem Nmz.rows_rs:b.rs.flatMap RC.rows=[]:=by
 rw[aI];intro c a;obtain⟨x,_,rfl⟩:=jzk.1 a;rfl
@[simp]theorem Nmz.flat_rs:b.rs.all RC.flat=true:=jzy.2 λc a=>by
 obtain⟨x,_,rfl⟩:=jzk.1 a;rfl
theorem jqh(b:St)(pure:Bool): ∀l:List Int,fitL (fitC b pure) (l.map λx=>C.d (i16 x)) (l.map λx=>RC.d (i16 x))
 |[]=>trivial
 |a::l=>⟨⟨λ_=>rfl,rfl⟩,jqh b pure l⟩
@[simp]theorem Nmz.fit_rs(a:St)(pure:Bool):fitL (fitC a pure) b.cs b.rs:=jqh a pure b.v
theorem Nmz.get_n{k:Nat}(e:k<26):b.cs[k]? =some (.d (.int .i16 (b.get k))):=by
 have a:k<b.v.length:=by rw[b.h];omega
 simp[Nmz.cs,Nmz.get,a,i16]
theorem Nmz.set_n{k:Nat}(g:k<26)(x:Int):splice k [.d (.int .i16 x)] b.cs=(b.put k x).cs:=by
 have f:k<b.cs.length:=by rw[b.cs_len];omega
 apply List.ext_getElem?;intro j;rw[Df _ _ _ (by simp;omega)];have e:k<b.v.length:=by rw[b.h];omega
 simp only[Nmz.cs,Nmz.put,Bf,List.getElem?_set];by_cases a:j=k
 ·subst a;simp[e,i16]
 ·rw[if_neg (by simp;omega),if_neg O]
end
def Nmz.Ok(b:Nmz):Prop:= ∀x∈b.v,-1<=x/\x<2000
theorem Nmz.Ok.get{b:Nmz}(h:b.Ok)(k:Nat): -1<=b.get k/\b.get k<2000:=by
 unfold Nmz.get;rcases Nat.lt_or_ge k b.v.length with h1|h1
 ·rw[VZ _ h1];exact h _ (AZ h1)
 ·rw[jgr _ h1];omega
theorem Nmz.Ok.put{b:Nmz}(h:b.Ok)(k:Nat){x:Int}(a: -1<=x/\x<2000):(b.put k x).Ok:=by
 intro y e;rcases List.mem_or_eq_of_mem_set e with h1|h1
 ·exact h y h1
 ·rw[h1];exact a
theorem Nmz.zero_ok:Nmz.zero.Ok:=λx a=>by
 have:x= -1:=List.eq_of_mem_replicate a;omega
theorem jrg: ∀(ls:List UInt8) (b:List Int) (n:Nmz),n.Ok->(∀x∈b,0<=x/\x<2000)->(H3 ls b n).1.Ok
 |[],b,n,a,_=>a
 |c::l,[],n,a,_=>a
 |c::l,x::r,n,a,h=>by
  rw[H3];split
  ·exact a
  ·have f:=h x O1;exact jrg l r _ (a.put _ O) λy e=>h y (by simp[e])
theorem jBS{n:Int}(h: -32768<=n/\n<=32767):IntKind.i16.wrap n=n:=by
 have e:IntKind.i16.wrap n=if n%2^16>=2^(16 - 1) then n%2^16 - 2^16 else n%2^16:=by
  unfold IntKind.wrap;simp[IntKind.signed,IntKind.bits]
 rw[e];split<;>omega
theorem jxc(ls:List UInt8)(a:List Int)(n:Nmz)(J:n.Ok)(P:a.length<=ls.length)(G: ∀c∈ls,97<=c.toNat/\c.toNat<123)(K: ∀x∈a,0<=x/\x<2000)(I:ls.length<=1000):
  CallsF prog 201 [.c (.str (bs ls)),.c (AT a),.agg n.ds] (.tup [.agg (H3 ls a n).1.rs,.c (.d (.bool (H3 ls a n).2))]):=by
 generalize F:H3 ls a n=M;refine cO func201 rfl ?_;simp -implicitDefEqProofs[jJ,-qA,-qB,-qC,-qD,-qE,-aD,-qF];refine AV (λx:Nat×Nmz=>⟨[(8,vI .i64 x.1),(7,vB false),(6,vC (.ptr 6 0)),(5,vC (.ptr 5 0)),(0,vC (.d (.str (bs ls)))),(1,vC (.d (AT a)))],[(6,.box (aM 26 (.d (.int .i16 0)))),(5,.box x.2.cs)]⟩)
  (λx=>x.1<=a.length/\x.2.Ok/\H3 (ls.drop x.1) (a.drop x.1) x.2=M) (λx=>a.length - x.1) (0,n) (by simp[AW,lk,St.le,vI,vC]) ⟨O,J,F⟩ ?_
 rintro⟨i,m⟩ ⟨E,l,e⟩;simp only at E l e;by_cases h:i<a.length
 ·have f:i<ls.length:=O;have H:=G ls[i] (AZ f);have L:=K a[i] (AZ h);have p:(bs ls)[i]? =some ls[i]:=by rw[jmY,AD f]
  rw[BQ f,BQ h,H3]at e;obtain⟨k,hk⟩: ∃k,ls[i].toNat=97+k:=⟨ls[i].toNat - 97,O⟩
  have b:k<26:=O;have q:=m.get_n b;have y:=m.set_n b a[i];have N:=l.get k;have o:(((97+k:Nat):Int) - 97)%256=(k:Int):=O;rw[hk,aJ]at e;have t:IntKind.i64.wrap (k:Int)=(k:Int):=wrap_i64 O;have w:IntKind.i64.wrap (m.get k)=m.get k:=wrap_i64 O;have z:IntKind.i16.wrap a[i]=a[i]:=jBS O;generalize Q:m.get k=v at*;by_cases g:0<=v
  ·by_cases j:v=a[i]
   ·rw[if_neg (by simp[j])]at e;subst j;simp -implicitDefEqProofs[jJ,-qA,-qB,-qC,-qD,-qE,-aD,-qF,h,p,hk,o,t];refine⟨f,?_⟩;refine AA jmr jnf O5 ?_;simp -implicitDefEqProofs[jJ,-qA,-qB,-qC,-qD,-qE,-aD,-qF,h,q,w,g,i64];exact⟨b,O,O,i+1,m.put k a[i],⟨rfl,by rw[z];exact y⟩,⟨O,l.put _ O,e⟩,O⟩
   ·rw[if_pos ⟨g,j⟩]at e;simp -implicitDefEqProofs[jJ,-qA,-qB,-qC,-qD,-qE,-aD,-qF,h,p,hk,o,t];refine⟨f,?_⟩;refine AA jmr jnf O5 ?_;subst e;simp -implicitDefEqProofs[jJ,-qA,-qB,-qC,-qD,-qE,-aD,-qF,h,q,w,g,j,i64];exact b
  ·rw[if_neg (λh=>g h.1)]at e;simp -implicitDefEqProofs[jJ,-qA,-qB,-qC,-qD,-qE,-aD,-qF,h,p,hk,o,t];refine⟨f,?_⟩;refine AA jmr jnf O5 ?_;simp -implicitDefEqProofs[jJ,-qA,-qB,-qC,-qD,-qE,-aD,-qF,h,q,w,g,i64];exact⟨b,O,O,i+1,m.put k a[i],⟨rfl,by rw[z];exact y⟩,⟨O,l.put _ O,e⟩,O⟩
 ·have r:i=a.length:=O;subst r;rw[aG]at e;have e:(m,true)=M:=by
   rw[<-e];cases aP a.length ls<;>rfl
  subst e;simp -implicitDefEqProofs[jJ,-qA,-qB,-qC,-qD,-qE,-aD,-qF]
def ZI(a:Bool)(v:Int):List Int:=if a then [v.tdiv 40,v.tmod 40] else [v]
def argT(q:RPat)(n:Nmz)(i:Nat):List Int:=(q.letters.take i).flatMap λc=>ZI q.seg (n.get (c.toNat - 97))
theorem joE(q:RPat)(n:Nmz):argT q n q.letters.length=argsR q n:=by
 unfold argT argsR ZI;rw[BM]
theorem jxT(q:RPat)(n:Nmz){i:Nat}(h:i<q.letters.length):argT q n (i+1)=argT q n i++ZI q.seg (n.get (q.letters[i].toNat - 97)):=by
 unfold argT;rw[Cr h,List.flatMap_append];simp
theorem jqE(q:RPat)(n:Nmz)(i:Nat):(argT q n i).length<=2*i:=by
 have: ∀l:List UInt8,(l.flatMap λc=>ZI q.seg (n.get (c.toNat - 97))).length<=2*l.length:=λl=>by
  induction l with
  |nil=>simp
  |cons c r a=>
   have:(ZI q.seg (n.get (c.toNat - 97))).length<=2:=by unfold ZI;split<;>simp
   rw[List.flatMap_cons,List.length_append,List.length_cons];omega
 exact aO (this _) (by rw[A8];omega)
theorem joX(q:RPat)(n:Nmz)(E:n.Ok)(x: ∀c∈q.letters,97<=c.toNat/\c.toNat<123)(z:q.letters.length<=1000):
  CallsF prog 198 [.agg q.ds,.agg n.ds] (.u (.c (.own 1 (argsR q n).length ((argsR q n).map i64)))):=by
 have g:=jqE q n;rw[<-joE];have f:= @jxT q n;have l:argT q n 0=[]:=rfl;generalize argT q n=A at*;obtain⟨k,b,sg,o⟩:=q;simp only[RPat.ds]at*;refine cO func198 rfl ?_;simp -implicitDefEqProofs[jJ,-qA,-qB,-qC,-qD,-qE,-qF];refine CE [(5,32),(5,36)] (λi:Nat=>⟨[(6,vI .i64 i),(5,vC (.sl 5 0 (A i).length)),(3,vC (.ptr 3 0)),(2,vC (.ptr 2 0))],[(5,.row 1 ((A i).map i64) true),(3,.box n.cs),(2,.box [.d (.int .i64 k),.d (.str (bs b)),.d (.bool sg),.d (.int .i64 o)])]⟩)
  (λi=>i<=b.length) (λi=>b.length - i) 0 (by simp[l]) O ?_
 rintro i hi;by_cases h:i<b.length
 ·have e:=f h;have H:=g i;have y:=x b[i] (AZ h);have F:(bs b)[i]? =some b[i]:=by rw[jmY,AD h]
  obtain⟨j,hj⟩: ∃j,b[i].toNat=97+j:=⟨b[i].toNat - 97,O⟩
  have a:j<26:=O;have r:=n.get_n a;have G:=E.get j;have p:(((97+j:Nat):Int) - 97)%256=(j:Int):=O;rw[hj,aJ]at e;generalize n.get j=v at*;have t:IntKind.i64.wrap (j:Int)=(j:Int):=wrap_i64 O;have w:IntKind.i64.wrap v=v:=wrap_i64 O;unfold ZI at e;cases sg with
  |true=>
   simp only[if_true]at e;have I: -1<=v.tdiv 40/\v.tdiv 40<=2000:=by
    by_cases l:0<=v
    ·rw[Int.tdiv_eq_ediv_of_nonneg l];omega
    ·obtain rfl:v= -1:=O;decide
   simp -implicitDefEqProofs[jJ,-qA,-qB,-qC,-qD,-qE,-qF,h,hj,p,r,t,w];exact⟨a,O,⟨O,O⟩,O,i+1,⟨⟨rfl,by rw[e];simp⟩,by rw[e];simp[i64]⟩,O,O⟩
  |false=>
   simp only[Bool.false_eq_true,if_false]at e;simp -implicitDefEqProofs[jJ,-qA,-qB,-qC,-qD,-qE,-qF,h,hj,p,r,t,w];exact⟨a,⟨O,O⟩,O,i+1,⟨⟨rfl,by rw[e];simp⟩,by rw[e];simp[i64]⟩,O,O⟩
 ·have m:i=b.length:=O;subst m;simp -implicitDefEqProofs[jJ,-qA,-qB,-qC,-qD,-qE,-qF]
def jnQ:List (List Nat):=(Ah [0,0,3,7,0,31,63])
@[simp]def jq5:List Seg:=[.any [] [] (Aq [[0],[7],[18,19],[20],[3]]),.one,.one]
def jcy:List (List Nat):=(Ah [0,0,3,7,0,0,48,112,255])
@[simp]def jbG:List Seg:=[.any [] [] (Aq [[8],[9],[35,36],[37],[8],[10],[39,40],[41]]),.one]
def jgg:List (List Nat):=(Ah [0,0,3,7,0,0,48,112,255])
@[simp]def jiw:List Seg:=[.any [] [] (Aq [[8],[9],[44,45],[46],[8],[10],[48,49],[50]]),.one]
@[simp high]theorem ju5(l:List RPat):(l.flatMap RPat.ds).length=l.length*4:=Qw RPat.ds_len l
@[simp]theorem jCi(l:List RPat):lenC (.d (CQ l))=some l.length:=rfl
@[simp]theorem jCn(l:List RPat):D.flat (CQ l)=false:=rfl
@[simp]theorem jCe(h:List (Nat×Blk))(i:Int)(l:List RPat):idxSl h 4 i (.d (CQ l))=if 0<=i/\i<l.length then some (.d (.ref ((l.drop i.toNat).flatMap RPat.ds))) else none:=by
 unfold CQ idxSl;simp only[ju5,and_true,jdj RPat.ds_len]
theorem jjy{l:List RPat}{i:Nat}(h:i<l.length):(l.drop i).flatMap RPat.ds= .int .i64 l[i].kind:: .str (bs l[i].letters):: .bool l[i].seg:: .int .i64 l[i].num::(l.drop (i+1)).flatMap RPat.ds:=by
 rw[BQ h];rfl
@[simp]theorem flat_i64(x:Int):(i64 x).flat=true:=rfl
theorem jaw{b:List Int}{j:Nat}(x:Int)(h:j<b.length):splice j [D.int .i64 x] (b.map i64)=(b.set j x).map i64:=by
 rw[jmh (by simpa using h),aD];rfl
theorem jqI: ∀(m:Nat) (a:List Int) (j k:Nat) (b:List Int),Pz m a j k=some b->b.length=a.length
 |0,a,j,k,b,h=>by cases h;rfl
 |m+1,a,j,k,b,h=>by
  rw[Pz]at h;split at h
  ·cases h
  ·rw[jqI m _ j (k+1) b h];split<;>simp
theorem jnd(f:Grd): ∀l:List Grd,(Ka l f).length<=l.length+1
 |[]=>by simp[Ka]
 |a::l=>by
  have b:=jnd f l;unfold Ka;split
  ·simp;omega
  ·split<;>simp
def Grd.In(g:Grd):Prop:=g.Short/\ -1000<=g.kind/\g.kind<=1000
theorem joU(q:RPat)(n:Nmz):(argsR q n).length<=2*q.letters.length:=by
 rw[<-joE];exact jqE q n _
theorem jAK(l:List RPat)(n:Nmz)(hn:n.Ok)(hc: ∀q∈l,(∀c∈q.letters,97<=c.toNat/\c.toNat<123)/\q.letters.length<=1000/\ -1000<=q.kind/\q.kind<=1000)(hl:l.length<=1000):
  CallsF prog 197 [.c (CQ l),.agg n.ds] (.tup [.c (.d (Dd (P3 l n []).1)),.c (.d (.bool (P3 l n []).2))]):=by
 generalize hM:P3 l n []=M;refine cO func197 rfl ?_;simp -implicitDefEqProofs[jJ,-qA,-qB,-aD,-qF];refine AV (λx:Nat×Option (List Grd)=>match x with
   |(i,none)=>⟨[(7,vI .i64 i),(6,vC (.sl 6 0 0)),(3,vC (.ptr 3 0)),(0,vC (.d (CQ l)))],[(6,.row 2 [] true),(3,.box n.cs)]⟩
   |(i,some o)=>⟨[(7,vI .i64 i),(6,vC (.d (Dd o))),(3,vC (.ptr 3 0)),(0,vC (.d (CQ l)))],[(3,.box n.cs)]⟩)
  (λx=>x.1<=l.length/\(x.2.getD []).length<=x.1/\(∀g∈x.2.getD [],g.In)/\P3 (l.drop x.1) n (x.2.getD [])=M) (λx=>l.length - x.1) (0,none) O1 ⟨O,O1,O1,hM⟩ ?_
 rintro⟨i,o⟩ ⟨h1,T,E,v⟩;simp only at h1 T E v;by_cases h:i<l.length
 ·obtain⟨c1,c2,Q,S⟩:=hc l[i] (AZ h);have X:=joX l[i] n hn c1 c2;have kl:=joU l[i] n;have P:=jjy h;rw[BQ h,P3]at v;simp only[RPat.ds]at X;generalize argsR l[i] n=m at*;cases o with
  |none=>
   simp only[Option.getD_none]at T E v;simp -implicitDefEqProofs[jJ,-qA,-qB,-aD,-qF,h];refine AA jnQ jq5 O5 ?_;simp -implicitDefEqProofs[jJ,-qA,-qB,-aD,-qF,h,P];refine Ac X ?_;simp -implicitDefEqProofs[jJ,-qA,-qB,-aD,-qF];refine AV (λx:Nat×List Int=>⟨[(9,vI .i64 x.1),(8,vC (.sl 23 0 m.length)),(7,vI .i64 i),(6,vC (.sl 6 0 0)),(3,vC (.ptr 3 0)),(0,vC (.d (CQ l)))],[(23,.row 1 (x.2.map i64) true),(6,.row 2 [] true),(3,.box n.cs)]⟩)
    (λx=>x.1<=m.length/\x.2.length=m.length/\RO (m.length - x.1) x.2 x.1=X0 m) (λx=>m.length - x.1) (0,m) (by simp[AW,lk,St.le,vI,vC]) ⟨O,rfl,rfl⟩ ?_
   rintro⟨j,a⟩ ⟨Z,J,t⟩;simp only at Z J t;by_cases w:j<m.length
   ·rw[show m.length - j=(m.length - (j+1))+1 by omega,RO]at t;simp -implicitDefEqProofs[jJ,-qA,-qB,-aD,-qF,w];refine AV (λx:Nat×List Int=>⟨[(10,vI .i64 x.1),(9,vI .i64 j),(8,vC (.sl 23 0 m.length)),(7,vI .i64 i),(6,vC (.sl 6 0 0)),(3,vC (.ptr 3 0)),(0,vC (.d (CQ l)))],[(23,.row 1 (x.2.map i64) true),(6,.row 2 [] true),(3,.box n.cs)]⟩)
     (λx=>x.1<=j/\x.2.length=m.length/\Pz (j - x.1) x.2 j x.1=Pz j a j 0) (λx=>j - x.1) (0,a) (by simp[AW,lk,St.le,vI,vC]) ⟨O,J,rfl⟩ ?_
    rintro⟨k,b⟩ ⟨r1,K,p⟩;simp only at r1 K p;by_cases G:k<j
    ·rw[show j - k=(j - (k+1))+1 by omega,Pz]at p;have e:j<b.length:=O;have f:k<b.length:=O;have r:k<m.length:=O;rw[VZ _ e,VZ _ f]at p;by_cases y:b[j]=b[k]
     ·rw[if_pos y]at p;rw[<-p]at t;simp only at t;rw[<-t]at v;simp only at v;subst v;simp -implicitDefEqProofs[jJ,-qA,-qB,-aD,-qF,G];refine AA jcy jbG O5 ?_;simp -implicitDefEqProofs[jJ,-qA,-qB,-aD,-qF,w,e,f,r,y,i64];rfl
     ·rw[if_neg y]at p;by_cases z:b[j]<b[k]
      ·rw[if_pos z]at p;simp -implicitDefEqProofs[jJ,-qA,-qB,-aD,-qF,G];refine AA jcy jbG O5 ?_;simp -implicitDefEqProofs[jJ,-qA,-qB,-aD,-qF,w,e,f,r,y,i64];refine AA jgg jiw O5 ?_;simp -implicitDefEqProofs[jJ,-qA,-qB,-aD,-qF,w,e,f,r,z,i64];refine⟨O,by rw[jaw _ e];simp;omega,O,k+1,_,⟨rfl,by rw[jaw _ e,jaw _ (by simpa using f)]⟩,⟨O,by simp;omega,p⟩,O⟩
      ·rw[if_neg z]at p;simp -implicitDefEqProofs[jJ,-qA,-qB,-aD,-qF,G];refine AA jcy jbG O5 ?_;simp -implicitDefEqProofs[jJ,-qA,-qB,-aD,-qF,w,e,f,r,y,i64];refine AA jgg jiw O5 ?_;simp -implicitDefEqProofs[jJ,-qA,-qB,-aD,-qF,w,e,f,r,z,i64];exact⟨O,k+1,b,⟨rfl,rfl⟩,⟨O,K,p⟩,O⟩
    ·have H:k=j:=O;subst H;rw[aH,Pz]at p;rw[<-p]at t;simp only at t;simp -implicitDefEqProofs[jJ,-qA,-qB,-aD,-qF];exact⟨O,k+1,b,⟨rfl,rfl⟩,⟨O,K,t⟩,O⟩
   ·have F:j=m.length:=O;subst F;rw[aH,RO]at t;rw[<-t]at v;simp only at v;have N:(Grd.mk l[i].kind a).Short:=by unfold Grd.Short;simp only;omega
    have L:=jjr ⟨l[i].kind,a⟩ [] N O1 O1 O1;rw[show Dd []=D.slice 0 [] from rfl]at L;have I: ∀g∈Ka [] ⟨l[i].kind,a⟩,g.In:=λg hg=>by
     rw[jb4]at hg;rcases hg with rfl|hg
     ·exact⟨N,Q,S⟩
     ·cases hg
    have Y:(Ka [] (Grd.mk l[i].kind a)).length<=i+1:=by simp[Ka]
    simp only[Grd.ds]at L;rw[<-J];simp -implicitDefEqProofs[jJ,-qA,-qB,-aD,-qF,h,P];refine Ac L ?_;simp -implicitDefEqProofs[jJ,-qA,-qB,-aD,-qF];exact⟨O,i+1,some (Ka [] ⟨l[i].kind,a⟩),by simp[AW,lk],⟨O,Y,I,v⟩,O⟩
  |some o=>
   simp only[Option.getD_some]at T E v;simp -implicitDefEqProofs[jJ,-qA,-qB,-aD,-qF,h];refine AA jnQ jq5 O5 ?_;simp -implicitDefEqProofs[jJ,-qA,-qB,-aD,-qF,h,P];refine Ac X ?_;simp -implicitDefEqProofs[jJ,-qA,-qB,-aD,-qF];refine AV (λx:Nat×List Int=>⟨[(9,vI .i64 x.1),(8,vC (.sl 23 0 m.length)),(7,vI .i64 i),(6,vC (.d (Dd o))),(3,vC (.ptr 3 0)),(0,vC (.d (CQ l)))],[(23,.row 1 (x.2.map i64) true),(3,.box n.cs)]⟩)
    (λx=>x.1<=m.length/\x.2.length=m.length/\RO (m.length - x.1) x.2 x.1=X0 m) (λx=>m.length - x.1) (0,m) (by simp[AW,lk,St.le,vI,vC]) ⟨O,rfl,rfl⟩ ?_
   rintro⟨j,a⟩ ⟨Z,J,t⟩;simp only at Z J t;by_cases w:j<m.length
   ·rw[show m.length - j=(m.length - (j+1))+1 by omega,RO]at t;simp -implicitDefEqProofs[jJ,-qA,-qB,-aD,-qF,w];refine AV (λx:Nat×List Int=>⟨[(10,vI .i64 x.1),(9,vI .i64 j),(8,vC (.sl 23 0 m.length)),(7,vI .i64 i),(6,vC (.d (Dd o))),(3,vC (.ptr 3 0)),(0,vC (.d (CQ l)))],[(23,.row 1 (x.2.map i64) true),(3,.box n.cs)]⟩)
     (λx=>x.1<=j/\x.2.length=m.length/\Pz (j - x.1) x.2 j x.1=Pz j a j 0) (λx=>j - x.1) (0,a) (by simp[AW,lk,St.le,vI,vC]) ⟨O,J,rfl⟩ ?_
    rintro⟨k,b⟩ ⟨r1,K,p⟩;simp only at r1 K p;by_cases G:k<j
    ·rw[show j - k=(j - (k+1))+1 by omega,Pz]at p;have e:j<b.length:=O;have f:k<b.length:=O;have r:k<m.length:=O;rw[VZ _ e,VZ _ f]at p;by_cases y:b[j]=b[k]
     ·rw[if_pos y]at p;rw[<-p]at t;simp only at t;rw[<-t]at v;simp only at v;subst v;simp -implicitDefEqProofs[jJ,-qA,-qB,-aD,-qF,G];refine AA jcy jbG O5 ?_;simp -implicitDefEqProofs[jJ,-qA,-qB,-aD,-qF,w,e,f,r,y,i64];rfl
     ·rw[if_neg y]at p;by_cases z:b[j]<b[k]
      ·rw[if_pos z]at p;simp -implicitDefEqProofs[jJ,-qA,-qB,-aD,-qF,G];refine AA jcy jbG O5 ?_;simp -implicitDefEqProofs[jJ,-qA,-qB,-aD,-qF,w,e,f,r,y,i64];refine AA jgg jiw O5 ?_;simp -implicitDefEqProofs[jJ,-qA,-qB,-aD,-qF,w,e,f,r,z,i64];refine⟨O,by rw[jaw _ e];simp;omega,O,k+1,_,⟨rfl,by rw[jaw _ e,jaw _ (by simpa using f)]⟩,⟨O,by simp;omega,p⟩,O⟩
      ·rw[if_neg z]at p;simp -implicitDefEqProofs[jJ,-qA,-qB,-aD,-qF,G];refine AA jcy jbG O5 ?_;simp -implicitDefEqProofs[jJ,-qA,-qB,-aD,-qF,w,e,f,r,y,i64];refine AA jgg jiw O5 ?_;simp -implicitDefEqProofs[jJ,-qA,-qB,-aD,-qF,w,e,f,r,z,i64];exact⟨O,k+1,b,⟨rfl,rfl⟩,⟨O,K,p⟩,O⟩
    ·have H:k=j:=O;subst H;rw[aH,Pz]at p;rw[<-p]at t;simp only at t;simp -implicitDefEqProofs[jJ,-qA,-qB,-aD,-qF];exact⟨O,k+1,b,⟨rfl,rfl⟩,⟨O,K,t⟩,O⟩
   ·have F:j=m.length:=O;subst F;rw[aH,RO]at t;rw[<-t]at v;simp only at v;have N:(Grd.mk l[i].kind a).Short:=by unfold Grd.Short;simp only;omega
    have L:=jjr ⟨l[i].kind,a⟩ o N (λg hg=>(E g hg).1) (λg hg=> .inr ⟨(E g hg).2.1,(E g hg).2.2,Q,S⟩) O;have I: ∀g∈Ka o ⟨l[i].kind,a⟩,g.In:=λg hg=>by
     rw[jb4]at hg;rcases hg with rfl|hg
     ·exact⟨N,Q,S⟩
     ·exact E g hg
    have Y:=jnd ⟨l[i].kind,a⟩ o;simp only[Grd.ds]at L;rw[<-J];simp -implicitDefEqProofs[jJ,-qA,-qB,-aD,-qF,h,P];refine Ac L ?_;simp -implicitDefEqProofs[jJ,-qA,-qB,-aD,-qF];exact⟨O,i+1,some _,by simp[AW,lk],⟨O,aO Y O,I,v⟩,O⟩
 ·have W:i=l.length:=O;subst W;rw[aG,P3]at v;subst v;cases o with
  |none=>
   simp -implicitDefEqProofs[jJ,-qA,-qB,-aD,-qF];rfl
  |some o=>simp -implicitDefEqProofs[jJ,-qA,-qB,-aD,-qF]
end Go.Va
