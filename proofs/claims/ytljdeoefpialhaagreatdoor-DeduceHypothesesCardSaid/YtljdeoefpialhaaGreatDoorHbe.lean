/- a part of the proof -/
import Derived.Test.YtljdeoefpialhaaGreatDoorHba
import Derived.Test.YtljdeoefpialhaaGreatDoorHbd
set_option linter.all false
set_option maxHeartbeats 4000000
set_option maxRecDepth 100000
namespace Go.Va
open Go.Proofs
def G8(l:List Fct)(f:Fct):List Fct:=if Gi (normF f)=true then l else if normF f∈l then l else l++[normF f]
def normL(fs:List Fct):List Fct:=fs.foldl G8 []
theorem JJ{fs:List Fct}{i:Nat}(h:i<fs.length):normL (fs.take (i+1))=G8 (normL (fs.take i)) fs[i]:=by
 unfold normL;rw[Cr h,List.foldl_append];rfl
theorem Iw(fs:List Fct): ∀i,i≤fs.length→(normL (fs.take i)).length≤i
 |0,_=>by simp[normL]
 |i+1,h=>by
  have ih:=Iw fs i (by omega)
  rw[JJ h]
  unfold G8;split
  ·omega
  split
  ·omega
  ·rw[List.length_append,List.length_singleton];omega
theorem Ji(fs:List Fct)(hf: ∀f∈fs,f.Rt): ∀i,i≤fs.length→ ∀x∈normL (fs.take i),x.Rt
 |0,_,x,hx=>by simp[normL]at hx
 |i+1,h,x,hx=>by
  have ih:=Ji fs hf i (by omega)
  rw[JJ h]at hx
  unfold G8 at hx;split at hx
  ·exact ih x hx
  split at hx
  ·exact ih x hx
  ·rcases List.mem_append.1 hx with hx|hx
   ·exact ih x hx
   ·rw[List.mem_singleton]at hx
    subst hx;have hr:=hf _ (AZ h);unfold normF;rw[if_pos hr.ok];exact Nw hr
def Bn(f:Fct):ByteArray:=⟨(CI f.kind f.args f.neg (val f.abs) (val f.den)).toArray⟩
theorem Ny{k:Int}(h:arity k≠0):1≤k∧k≤9:=by
 unfold arity at h
 repeat' split at h
 all_goals first|omega|exact absurd rfl h
theorem YC{f g:Fct}(hf:f.Rt)(hg:g.Rt)(h:Bn f=Bn g):f=g:=by
 obtain⟨a1,a2,a3,a4⟩:=hf.parts
 obtain⟨b1,b2,b3,b4⟩:=hg.parts
 have mf:=hf.mild;have mg:=hg.mild;have k1:=Ny a1;have k2:=Ny b1;unfold Bn at h;have h':=congrArg (fun b:ByteArray=>b.data.toList) h
 simp only at h';obtain⟨e1,e2,e3⟩:=jiD (by omega) (by omega) (fun a ha=>(a3 a ha).1) (fun a ha=>(b3 a ha).1) h'
 obtain⟨k,l,n,m,d⟩:=f
 obtain⟨k',l',n',m',d'⟩:=g
 simp only at*;subst e1;subst e2;by_cases h9:k=9
 ·subst h9;rw[if_pos rfl]at a4 b4;obtain⟨q1,q2,_⟩:=Cz a4 mf.oa mf.od;obtain⟨r1,r2,_⟩:=Cz b4 mg.oa mg.od;obtain⟨u1,u2,u3⟩:=e3 rfl;rw[q1,q2,r1,r2,u1,u2,u3]
 ·rw[if_neg h9]at a4 b4
  obtain⟨rfl,rfl,rfl⟩:=a4
  obtain⟨rfl,rfl,rfl⟩:=b4
  rfl
def Dj(l:List Fct):List (ByteArray×Int):=l.zipIdx.map fun p=>(Bn p.1,(p.2:Int))
theorem jjI(l:List Fct)(f:Fct):Dj (l++[f])=Dj l++[(Bn f,(l.length:Int))]:=by
 unfold Dj;rw[List.zipIdx_append,List.map_append];simp
theorem Rb: ∀(es:List (ByteArray×Int)) (k:ByteArray) (i:Nat),(∀e∈es,e.1≠k)→B5 k es i=none
 |[],_,_,_=>rfl
 |(a,v)::r,k,i,h=>by
  unfold B5;rw[if_neg (fun h2=>h (a,v) (List.mem_cons_self ..) (Qo h2).symm)]
  exact Rb r k (i+1) fun e he=>h e (List.mem_cons_of_mem _ he)
theorem OK: ∀(es:List (ByteArray×Int)) (k:ByteArray) (i:Nat),(∃e∈es,e.1=k)→(B5 k es i).isSome=true
 |[],_,_,h=>by obtain⟨e,he,_⟩:=h;cases he
 |(a,v)::r,k,i,h=>by
  unfold B5;split
  ·rfl
  ·rename_i hne
   obtain⟨e,he,h1⟩:=h
   rcases jzn.1 he with rfl|he
   ·exact absurd (by subst h1;exact Qg _) hne
   ·exact OK r k (i+1) ⟨e,he,h1⟩
theorem ZQ{l:List Fct}{e:ByteArray×Int}(h:e∈Dj l): ∃f∈l,e.1=Bn f:=by
 unfold Dj at h;obtain⟨p,hp,rfl⟩:=jzk.1 h;exact⟨p.1,(List.mem_zipIdx' hp).2 ▸ AZ _,rfl⟩
theorem TL{l:List Fct}{f:Fct}(hl: ∀x∈l,x.Rt)(hf:f.Rt)(h:f∉l):B5 (Bn f) (Dj l) 0=none:=
 Rb _ _ _ fun e he hk=>by
  obtain⟨g,hg,h1⟩:=ZQ he
  exact h (YC hf (hl g hg) (hk.symm.trans h1) ▸ hg)
theorem jcb{l:List Fct}{f:Fct}(h:f∈l):(B5 (Bn f) (Dj l) 0).isSome=true:=by
 refine OK _ _ _ ?_;obtain⟨i,hi,rfl⟩:=List.mem_iff_getElem.1 h;refine⟨(Bn l[i],(i:Int)),?_,rfl⟩
 unfold Dj;refine jzk.2 ⟨(l[i],i),?_,rfl⟩;rw[List.mem_zipIdx_iff_getElem?];exact AD hi
theorem jix{l:List Fct}{f:Fct}(hl: ∀x∈l,x.Rt)(hf:f.Rt)(h:f∉l):GY (Bn f) l.length (Dj l)=Dj (l++[f]):=by
 unfold GY;rw[TL hl hf h,jjI]
end Go.Va
namespace Go.Va
open Int renaming natCast_add → qA, natCast_mul → qB, natCast_emod → qC, natCast_ediv → qD, natCast_pow → qE
open List renaming reduceReplicate → qF
open Go.Proofs
def MC:List (List Nat):=(Ah [0,1,3,7,7,23,63,127,7,7,775,1799,4095,8191])
@[simp]def NF:List Seg:=[.one,.one,.one,.any [] [] (Aq [[3,16],[5,16],[18,16],[17,19,16],[20,16],[0,16],[4,16],[22,23,16],[24,16]]),.one,.one]
def QP:List (List Nat):=(Ah [0,0,0,6,15,0,0,96,224,480,1023,0,0,6144,16383,32767])
@[simp]def Th:List Seg:=[.any [] [30,34,39,40] [⟨1,[],[39],[34,39,40],[]⟩,⟨0,[3],[30,39],[30,34,39,40],[]⟩,⟨0,[5],[30,39],[30,34,39,40],[]⟩,⟨0,[31,32],[30,39],[30,34,39,40],[]⟩,⟨3,[30,33],[39],[39,40],[30]⟩,⟨0,[0],[30,34],[30,34,39,40],[]⟩,⟨0,[4],[30,34],[30,34,39,40],[]⟩,⟨0,[35,36],[30,34],[30,34,39,40],[]⟩,⟨0,[37],[30,34],[30,34,39,40],[]⟩,⟨1,[38],[30,34],[30,34,40],[]⟩,⟨3,[34,39],[],[],[34]⟩,⟨0,[3],[30,34,39,40],[30,34,39,40],[]⟩,⟨0,[5],[30,34,39,40],[30,34,39,40],[]⟩,⟨0,[41,42],[30,34,39,40],[30,34,39,40],[]⟩],.one,.one]
def SS:List (List Nat):=(Ah [0,0,3,7,15,15,0,95,255])
@[simp]def Q1:List Seg:=[.any [] [5] [⟨0,[],[5],[5],[]⟩,⟨0,[2],[5],[5],[]⟩,⟨0,[16,17],[5],[5],[]⟩,⟨0,[18],[5],[5],[]⟩,⟨0,[15],[5],[5],[]⟩,⟨0,[15],[5],[5],[]⟩,⟨1,[],[],[],[]⟩,⟨2,[5,19],[],[],[5]⟩],.one]
@[simp]theorem jk2:(D.slice 0 []=intsD [])=True:=eq_true rfl
@[simp]theorem nil_natD:(D.slice 0 []=Ad [])=True:=eq_true rfl
theorem Ut{o:List Int}{x:Int}{p:Nat}(hs:o.Pairwise (· ≤ ·))(hlo: ∀j (hj:j<o.length),j<p→o[j]≤x)(hhi: ∀j (hj:j<o.length),p≤j→x<o[j]):(o.take p++x::o.drop p).Pairwise (· ≤ ·):=by
 have ht: ∀a∈o.take p,a≤x:=fun a ha=>by
  obtain⟨j,hj,rfl⟩:=List.mem_iff_getElem.1 ha
  rw[A8]at hj
  rw[List.getElem_take]
  exact hlo j (by omega) (by omega)
 have hd: ∀a∈o.drop p,x<a:=fun a ha=>by
  obtain⟨j,hj,rfl⟩:=List.mem_iff_getElem.1 ha
  rw[List.length_drop]at hj
  rw[List.getElem_drop]
  exact hhi _ (by omega) (by omega)
 rw[List.pairwise_append,List.pairwise_cons]
 refine⟨hs.sublist (List.take_sublist _ _),⟨fun b hb=>Int.le_of_lt (hd b hb),hs.sublist (List.drop_sublist _ _)⟩,fun a ha b hb=> ?_⟩
 rcases jzn.1 hb with rfl|hb
 ·exact ht a ha
 ·have:=ht a ha
  have:=hd b hb
  omega
theorem SV{o l:List Int}{i p:Nat}(h:i<l.length)(hp:o.Perm (l.take i)):(o.take p++l[i]::o.drop p).Perm (l.take (i+1)):=by
 rw[Cr h]
 refine List.perm_middle.trans ?_;rw[List.take_append_drop];exact(hp.cons _).trans (List.perm_append_comm (l₁:=[l[i]])).symm.symm
theorem Rv(l:List Int)(hl:l.length≤1099511627776):CallsF Tryz.prog 103 [.c (intsD l)] (.u (.c (.d (intsD (DX l))))):=by
 refine cO Tryz.func103 rfl ?_;simp -implicitDefEqProofs[jJ,-qA,-qB];refine CE [(3,44)] (fun x:Nat×Nat×List D=>⟨[(4,vI .i64 x.1),(3,vC (.sl 3 0 x.2.1)),(0,vC (.d (intsD l)))],[(3,.row 1 x.2.2 true)]⟩)
  (fun x=> ∃o:List Int,x.2.1=o.length∧x.2.2=o.map i64∧x.1≤l.length∧o.Perm (l.take x.1)∧o.Pairwise (· ≤ ·)) (fun x=>l.length - x.1) (0,0,[]) (by simp) ⟨[],by simp⟩ ?_
 rintro⟨i,n,cs⟩ ⟨o,hn,hc,h1,h2,h3⟩
 simp only at hn hc h1 h2 h3;subst hn hc;have hlen:=h2.length_eq;rw[A8,Bs h1]at hlen;by_cases h:i<l.length
 ·simp -implicitDefEqProofs[jJ,-qA,-qB,h];refine AV (fun k:Nat=>⟨[(5,vI .i64 k),(4,vI .i64 i),(3,vC (.sl 3 0 o.length)),(0,vC (.d (intsD l)))],[(3,.row 1 (o.map i64) true)]⟩)
   (fun k=>k≤o.length∧ ∀j (hj:j<o.length),k≤j→l[i]<o[j]) (fun k=>k) o.length (by simp) ⟨AO _,fun j hj hk=>by omega⟩ ?_
  rintro k ⟨g1,g2⟩
  cases k with
  |zero=>
   simp -implicitDefEqProofs[jJ,-qA,-qB];refine AA MC NF (by rfl) ?_
   simp -implicitDefEqProofs[jJ,-qA,-qB];refine AA QP Th (by rfl) ?_
   simp -implicitDefEqProofs[jJ,-qA,-qB,h,i64];refine⟨by omega,by omega,i+1,1+o.length,_,⟨⟨rfl,rfl⟩,rfl⟩,⟨l[i]::o,by simp;omega,rfl,by omega,?_,?_⟩,by omega⟩
   ·have:=SV (p:=0) h h2
    simpa using this
   ·have:=Ut (x:=l[i]) (p:=0) h3 (fun j hj hlt=>by omega) (fun j hj hle=>g2 j hj hle)
    simpa using this
  |succ k=>
   have hk:k<o.length:=by omega
   have hb:k≤9223372036854775806:=by omega
   by_cases hgt:l[i]<o[k]
   ·simp -implicitDefEqProofs[jJ,-qA,-qB,hb];refine AA MC NF (by rfl) ?_
    simp -implicitDefEqProofs[jJ,-qA,-qB,h,hk,i64,hgt,hb];refine⟨by omega,by omega,fun j hj hkj=> ?_⟩
    by_cases e:j=k
    ·subst e;exact hgt
    ·exact g2 j hj (by omega)
   ·simp -implicitDefEqProofs[jJ,-qA,-qB,hb];refine AA MC NF (by rfl) ?_
    simp -implicitDefEqProofs[jJ,-qA,-qB,h,hk,i64,hgt,hb];refine⟨by omega,?_⟩
    refine AA QP Th (by rfl) ?_
    simp -implicitDefEqProofs[jJ,-qA,-qB,h,hk,i64,hgt,hb];have hd:(o.drop (k+1)).length=o.length - (k+1):=List.length_drop;have hlo: ∀j (hj:j<o.length),j<k+1→o[j]≤l[i]:=fun j hj hlt=>by
     by_cases e:j=k
     ·subst e;omega
     ·have:=List.pairwise_iff_getElem.1 h3 j k hj hk (by omega)
      omega
    refine⟨g1,by omega,by omega,by omega,g1,by omega,by omega,by omega,by omega,i+1,k+1+1+(o.length - (k+1)),_,⟨⟨rfl,rfl⟩,rfl⟩,⟨o.take (k+1)++l[i]::o.drop (k+1),?_,?_,by omega,SV h h2,Ut h3 hlo g2⟩,by omega⟩
    ·simp
     omega
    ·rw[List.map_append,List.map_cons,List.map_take,List.map_drop,Ba (i:=o.length - (k+1)) (by simp)]
     rfl
 ·have hi:i=l.length:=by omega
  subst hi;rw[BM]at h2;have e:=jgA h2 h3;simp -implicitDefEqProofs[jJ,-qA,-qB];rw[e]
theorem jgf{l:List (Int×Int)}{i:Nat}(h:i<l.length):(C1 (l.take (i+1))).map i64=(C1 (l.take i)).map i64++[.int .i64 l[i].1,.int .i64 l[i].2]:=by
 rw[Cr h];unfold C1;rw[List.flatMap_append,List.map_append];rfl
theorem RA(l:List (Int×Int))(hl:l.length≤1099511627776):CallsF Tryz.prog 176 [.c (Hc l)] (.u (.c (.d (intsD (C1 l))))):=by
 refine cO Tryz.func176 rfl ?_;simp -implicitDefEqProofs[jJ,-qA,-qB];refine CE [(3,23)] (fun x:Nat×Nat×List D=>⟨[(4,vI .i64 x.1),(3,vC (.sl 3 0 x.2.1)),(0,vC (.d (Hc l)))],[(3,.row 1 x.2.2 true)]⟩)
  (fun x=>x.1≤l.length∧x.2.1=x.1*2∧x.2.2=(C1 (l.take x.1)).map i64) (fun x=>l.length - x.1) (0,0,[]) (by simp) (by simp[C1]) ?_
 rintro⟨i,n,cs⟩ ⟨h1,h2,h3⟩
 simp only at h1 h2 h3;subst h2 h3;have e3:=Mq (l.take i);rw[A8,Bs h1]at e3;by_cases h:i<l.length
 ·have e:=jgf h;have e2:=UC h;simp -implicitDefEqProofs[jJ,-qA,-qB,h];refine AA (Ah [0,0,0,6,14,30,0,0,192,448,960,2046,4095,8191]) [.any [] [22] ([⟨0,[3],[22],[22],[]⟩]++AG [22] [[0],[4],[12,13],[14],[15],[0],[4],[17,18],[19],[20]]++[⟨1,[16,21],[],[],[]⟩]),.one,.one] (by rfl) ?_
  simp -implicitDefEqProofs[jJ,-qA,-qB,h,e2,e3];exact⟨⟨by omega,by omega⟩,by omega,i+1,i*2+2,_,⟨⟨rfl,rfl⟩,rfl⟩,⟨by omega,by omega,by rw[e]⟩,by omega⟩
 ·have hi:i=l.length:=by omega
  subst hi;rw[BM]at e3 ⊢;simp -implicitDefEqProofs[jJ,-qA,-qB];rw[←e3,Ba (by simp)]
  exact⟨by simp,by show D.slice _ _=D.slice _ _;simp⟩
theorem GR(a b c d:Int):CallsF Tryz.prog 176 [.c (.slice 2 [.int .i64 a,.int .i64 b,.int .i64 c,.int .i64 d])] (.u (.c (.d (intsD [a,b,c,d])))):=RA [(a,b),(c,d)] (by simp)
theorem FU(a b c d e f g h:Int):CallsF Tryz.prog 176 [.c (.slice 4 [.int .i64 a,.int .i64 b,.int .i64 c,.int .i64 d,.int .i64 e,.int .i64 f,.int .i64 g,.int .i64 h])] (.u (.c (.d (intsD [a,b,c,d,e,f,g,h])))):=RA [(a,b),(c,d),(e,f),(g,h)] (by simp)
theorem jki(a b c d:Int):A6 (a,b) (c,d)<0↔a<c∨(a=c∧b<d):=by
 unfold A6 BV BV BV;simp only;rcases Dc a c with⟨h,e⟩|⟨h,e⟩|⟨h,e⟩<;>rcases Dc b d with⟨h',e'⟩|⟨h',e'⟩|⟨h',e'⟩<;>rw[e,e']<;>simp<;>omega
theorem WA(p q:Int×Int):A6 p q=0↔p=q:=by
 obtain⟨a,b⟩:=p
 obtain⟨c,d⟩:=q
 unfold A6 BV BV BV;simp only[Prod.mk.injEq];rcases Dc a c with⟨h,e⟩|⟨h,e⟩|⟨h,e⟩<;>rcases Dc b d with⟨h',e'⟩|⟨h',e'⟩|⟨h',e'⟩<;>rw[e,e']<;>simp<;>omega
theorem Kp(p q r s:Int×Int):BV [A6 p q,A6 r s]<0↔A6 p q<0∨(p=q∧A6 r s<0):=by
 have:=WA p q
 unfold BV BV BV;by_cases h:A6 p q=0
 ·rw[if_pos h]
  have e:=this.1 h;by_cases h2:A6 r s=0
  ·rw[if_pos h2,h2,h];simp
  ·rw[if_neg h2,h];simp[e]
 ·rw[if_neg h]
  have e: ¬p=q:=fun e=>h (this.2 e)
  simp[e]
theorem Cc(a b c d:Int):CallsF Tryz.prog 175 [.agg [.int .i64 a,.int .i64 b],.agg [.int .i64 c,.int .i64 d]] (.u (.c (.d (.bool (decide (A6 (a,b) (c,d)<0)))))):=by
 have e:=jki a b c d;simp only[e];clear e;refine cO Tryz.func175 rfl ?_;by_cases h1:a<c
 ·simp -implicitDefEqProofs[jJ,-qA,-qB,h1]
 ·by_cases h2:a=c
  ·subst h2;simp -implicitDefEqProofs[jJ,-qA,-qB]
  ·simp -implicitDefEqProofs[jJ,-qA,-qB,h1,h2]
def Ke(p q:Int×Int):Int×Bool:=if p.1=q.1∨p.1=q.2 then (p.1,true) else if p.2=q.1∨p.2=q.2 then (p.2,true) else (0,false)
theorem jgW(a b c d:Int):CallsF Tryz.prog 177 [.agg [.int .i64 a,.int .i64 b],.agg [.int .i64 c,.int .i64 d]] (.tup [.c (.d (.int .i64 (Ke (a,b) (c,d)).1)),.c (.d (.bool (Ke (a,b) (c,d)).2))]):=by
 unfold Ke;refine cO Tryz.func177 rfl ?_;by_cases h1:a=c
 ·simp -implicitDefEqProofs[jJ,-qA,-qB,h1]
 ·by_cases h2:a=d
  ·simp -implicitDefEqProofs[jJ,-qA,-qB,h1,h2]
  ·by_cases h3:b=c
   ·simp -implicitDefEqProofs[jJ,-qA,-qB,h1,h2,h3]
   ·by_cases h4:b=d
    ·simp -implicitDefEqProofs[jJ,-qA,-qB,h1,h2,h3,h4]
    ·simp -implicitDefEqProofs[jJ,-qA,-qB,h1,h2,h3,h4]
theorem Xw(neg:Bool)(m e:Nat)(hm:m<340282366920938463463374607431768211456)(he:e<340282366920938463463374607431768211456)(e0:e≠0)(hg:Nat.gcd m e=1)(same:Bool):
  CallsF Tryz.prog 179 [.agg [.bool neg,Ad (limbs m),Ad (limbs e)],.c (.bool same)]
   (if same=true∧m≠0∧cmpZ (toZ neg e*e) (toZ neg m*m)<0 then .u (.agg [.d (.bool neg),.d (Ad (limbs e)),.d (Ad (limbs m))]) else .u (.agg [.d (.bool neg),.d (Ad (limbs m)),.d (Ad (limbs e))])):=by
 have k1:=Na neg m e (by omega) (by omega) e0 hg
 have k2:=Ic 1 (by omega)
 have k3:=TO neg m e (by omega) (by omega) e0 hg
 have k4:=fun m0=>LL neg neg e m m e (by omega) (by omega) m0 (by rw[Nat.gcd_comm];exact hg) (by omega) (by omega) e0 hg
 cases same
 ·rw[if_neg (by simp)]
  refine cO Tryz.func179 rfl ?_;simp -implicitDefEqProofs[jJ,-qA,-qB]
 ·by_cases m0:m=0
  ·rw[if_neg (by simp[m0])]
   refine cO Tryz.func179 rfl ?_;simp -implicitDefEqProofs[jJ,-qA,-qB];refine Ac k1 ?_
   simp -implicitDefEqProofs[jJ,-qA,-qB,Dw,m0]
  ·rw[if_neg m0]at k3
   have k4:=k4 m0;by_cases hc:cmpZ (toZ neg e*e) (toZ neg m*m)<0
   ·rw[if_pos ⟨rfl,m0,hc⟩]
    refine cO Tryz.func179 rfl ?_;simp -implicitDefEqProofs[jJ,-qA,-qB];refine Ac k1 ?_
    simp -implicitDefEqProofs[jJ,-qA,-qB,Dw,m0];refine AA SS Q1 (by rfl) ?_
    simp -implicitDefEqProofs[jJ,-qA,-qB];refine Ae k2 ?_;simp -implicitDefEqProofs[jJ,-qA,-qB];refine Ae k3 ?_;simp -implicitDefEqProofs[jJ,-qA,-qB];refine Ac k4 ?_;simp -implicitDefEqProofs[jJ,-qA,-qB,hc]
   ·rw[if_neg (fun h=>hc h.2.2)]
    refine cO Tryz.func179 rfl ?_;simp -implicitDefEqProofs[jJ,-qA,-qB];refine Ac k1 ?_
    simp -implicitDefEqProofs[jJ,-qA,-qB,Dw,m0];refine AA SS Q1 (by rfl) ?_
    simp -implicitDefEqProofs[jJ,-qA,-qB];refine Ae k2 ?_;simp -implicitDefEqProofs[jJ,-qA,-qB];refine Ae k3 ?_;simp -implicitDefEqProofs[jJ,-qA,-qB];refine Ac k4 ?_;simp -implicitDefEqProofs[jJ,-qA,-qB,hc]
def TW:List (List Nat):=(Ah [0,1,0,0,12,28,63,127])
@[simp]def PI:List Seg:=[.any [] [94] (AG [94] [[3],[90],[5],[4]]++[⟨4,[92,93],[],[],[]⟩]++[⟨0,[94],[],[],[]⟩]),.one,.one]
def UT:List (List Nat):=(Ah [0,1,0,0,12,28,63,127])
@[simp]def Pa:List Seg:=[.any [] [101] (AG [101] [[3],[97],[4],[5]]++[⟨4,[99,100],[],[],[]⟩]++[⟨0,[101],[],[],[]⟩]),.one,.one]
def HR:List (List Nat):=(Ah [0,1,0,7])
@[simp]def IC:List Seg:=[.any [] [] (Aq [[3],[42],[]]),.one]
def LD:List (List Nat):=(Ah [0,1,0,0,12,28,0,64,0,0,768,2044,4095,8191])
@[simp]def LZ:List Seg:=[.any [] [78] (AG [78] [[3],[74],[4],[5]]++[⟨4,[76,77],[],[],[]⟩]++[⟨0,[78],[],[],[]⟩]++AG [78] [[3],[80],[4],[5],[82,83]]++[⟨0,[81,84],[],[],[]⟩]),.one,.one]
theorem Rh(k:Int)(l:List Int)(neg:Bool)(abs den:List Nat)(a b c d:Int)(hk:k=3∨k=4):CallsF Tryz.prog 106 [.agg [.int .i64 k,intsD l,.bool neg,Ad abs,Ad den],.agg [.int .i64 a,.int .i64 b],.agg [.int .i64 c,.int .i64 d]] (D9 k (a,b) (c,d)).res:=by
 have k1:=Cc c d a b;have k2:=GR c d a b;have k3:=GR a b c d;have h2: ¬k=2:=by omega
 have h9: ¬k=9:=by omega
 unfold D9;simp only;refine cO Tryz.func106 rfl ?_;by_cases h:A6 (c,d) (a,b)<0
 ·simp -implicitDefEqProofs[jJ,-qA,-qB,h2,h9];refine Ac k1 ?_;simp -implicitDefEqProofs[jJ,-qA,-qB,h];refine AA TW PI (by rfl) ?_
  simp -implicitDefEqProofs[jJ,-qA,-qB];refine Ae k2 ?_;simp -implicitDefEqProofs[jJ,-qA,-qB,Fct.res]
 ·simp -implicitDefEqProofs[jJ,-qA,-qB,h2,h9];refine Ac k1 ?_;simp -implicitDefEqProofs[jJ,-qA,-qB,h];refine AA UT Pa (by rfl) ?_
  simp -implicitDefEqProofs[jJ,-qA,-qB];refine Ae k3 ?_;simp -implicitDefEqProofs[jJ,-qA,-qB,Fct.res]
theorem jjD(l:List Int)(neg:Bool)(abs den:List Nat)(a b c d:Int)(ha:0≤a∧a<40)(hb:0≤b∧b<40)(hc:0≤c∧c<40)(hd:0≤d∧d<40):
  CallsF Tryz.prog 106 [.agg [.int .i64 2,intsD l,.bool neg,Ad abs,Ad den],.agg [.int .i64 a,.int .i64 b],.agg [.int .i64 c,.int .i64 d]] (HD (a,b) (c,d)).res:=by
 have k0:=jgW a b c d;have k1:=Cc c d a b;have k2:=GR c d a b;have k3:=GR a b c d;have srt:=fun x y z=>Rv [x,y,z] (by simp)
 unfold HD;unfold Ke at k0;simp only at k0 ⊢;by_cases h1:c=a∨d=a
 ·have h1':a=c∨a=d:=by omega
  rw[if_pos h1]
  rw[if_pos h1']at k0
  have s:CallsF Tryz.prog 103 [.c (.slice 3 [.int .i64 a,.int .i64 (a+b - a),.int .i64 (c+d - a)])] _:=srt a (a+b - a) (c+d - a);refine cO Tryz.func106 rfl ?_;simp -implicitDefEqProofs[jJ,-qA,-qB];refine Ac k0 ?_;simp -implicitDefEqProofs[jJ,-qA,-qB];refine⟨by omega,by omega,by omega,by omega,?_⟩
  refine Ac s ?_;simp -implicitDefEqProofs[jJ,-qA,-qB,Fct.res,oth]
 ·have h1': ¬(a=c∨a=d):=by omega
  rw[if_neg h1]
  rw[if_neg h1']at k0
  by_cases h2:c=b∨d=b
  ·have h2':b=c∨b=d:=by omega
   rw[if_pos h2]
   rw[if_pos h2']at k0
   have s:CallsF Tryz.prog 103 [.c (.slice 3 [.int .i64 b,.int .i64 a,.int .i64 (c+d - b)])] _:=srt b a (c+d - b);rw[KI];refine cO Tryz.func106 rfl ?_;simp -implicitDefEqProofs[jJ,-qA,-qB];refine Ac k0 ?_;simp -implicitDefEqProofs[jJ,-qA,-qB];refine⟨by omega,by omega,by omega,by omega,?_⟩
   refine Ac s ?_;simp -implicitDefEqProofs[jJ,-qA,-qB,Fct.res,oth]
  ·have h2': ¬(b=c∨b=d):=by omega
   rw[if_neg h2]
   rw[if_neg h2']at k0
   unfold D9;refine cO Tryz.func106 rfl ?_;by_cases h:A6 (c,d) (a,b)<0
   ·simp -implicitDefEqProofs[jJ,-qA,-qB];refine Ac k0 ?_;simp -implicitDefEqProofs[jJ,-qA,-qB];refine Ac k1 ?_;simp -implicitDefEqProofs[jJ,-qA,-qB,h];refine AA TW PI (by rfl) ?_
    simp -implicitDefEqProofs[jJ,-qA,-qB];refine Ae k2 ?_;simp -implicitDefEqProofs[jJ,-qA,-qB,Fct.res]
   ·simp -implicitDefEqProofs[jJ,-qA,-qB];refine Ac k0 ?_;simp -implicitDefEqProofs[jJ,-qA,-qB];refine Ac k1 ?_;simp -implicitDefEqProofs[jJ,-qA,-qB,h];refine AA UT Pa (by rfl) ?_
    simp -implicitDefEqProofs[jJ,-qA,-qB];refine Ae k3 ?_;simp -implicitDefEqProofs[jJ,-qA,-qB,Fct.res]
theorem UH(neg:Bool)(m e:Nat)(hm:m<340282366920938463463374607431768211456)(he:e<340282366920938463463374607431768211456)(e0:e≠0)(hg:Nat.gcd m e=1):CallsF Tryz.prog 99 [.agg [.bool neg,Ad (limbs m),Ad (limbs e)],.agg [.bool false,Ad (limbs 1),Ad (limbs 1)]] (.u (.c (.d (.bool (decide (toZ neg m=e)))))):=by
 have k:=jeW neg false m e 1 1 (by omega) (by omega) e0 hg (by omega) (by omega) (by omega) (by decide)
 have e1:(toZ neg m*(1:Nat)=toZ false 1*(e:Int))=(toZ neg m=e):=by simp[toZ]
 simpa only[e1]using k
theorem Vr(l:List Int)(neg:Bool)(m e:Nat)(a b c d:Int)(hm:m<340282366920938463463374607431768211456)(he:e<340282366920938463463374607431768211456)(e0:e≠0)(hg:Nat.gcd m e=1):
  CallsF Tryz.prog 106 [.agg [.int .i64 9,intsD l,.bool neg,Ad (limbs m),Ad (limbs e)],.agg [.int .i64 a,.int .i64 b],.agg [.int .i64 c,.int .i64 d]] (GK neg m e (a,b) (c,d)).res:=by
 have k1:=Cc c d a b;have k2:=GR c d a b;have k3:=GR a b c d;have k4:=UH neg m e hm he e0 hg;have k5:=Ic 1 (by omega)
 have k6:=Rh 4 [] false [] [] a b c d (.inr rfl);have k7:=Na neg m e (by omega) (by omega) e0 hg
 have k8:=TO neg m e (by omega) (by omega) e0 hg
 have k9:=Xw neg m e hm he e0 hg (decide (a=c)&&decide (b=d));unfold GK;simp only[Prod.mk.injEq];clear hm he e0 hg;refine cO Tryz.func106 rfl ?_;by_cases h1:toZ neg m=e
 ·rw[if_pos h1]
  simp -implicitDefEqProofs[jJ,-qA,-qB];refine AA HR IC (by rfl) ?_
  simp -implicitDefEqProofs[jJ,-qA,-qB];refine Ae k5 ?_;simp -implicitDefEqProofs[jJ,-qA,-qB];refine Ac k4 ?_;simp -implicitDefEqProofs[jJ,-qA,-qB,h1];refine Ac k6 ?_;simp -implicitDefEqProofs[jJ,-qA,-qB,Fct.res]
 ·rw[if_neg h1]
  by_cases h2:A6 (c,d) (a,b)<0
  ·by_cases m0:m=0
   ·subst m0;rw[if_neg (by simp)]at k9
    simp -implicitDefEqProofs[jJ,-qA,-qB];refine AA HR IC (by rfl) ?_
    simp -implicitDefEqProofs[jJ,-qA,-qB];refine Ae k5 ?_;simp -implicitDefEqProofs[jJ,-qA,-qB];refine Ac k4 ?_;simp -implicitDefEqProofs[jJ,-qA,-qB,h1];refine Ac k1 ?_;simp -implicitDefEqProofs[jJ,-qA,-qB,h2];refine Ac k7 ?_;simp -implicitDefEqProofs[jJ,-qA,-qB,Dw];refine AA LD LZ (by rfl) ?_
    simp -implicitDefEqProofs[jJ,-qA,-qB];refine Ae k3 ?_;simp -implicitDefEqProofs[jJ,-qA,-qB];refine Ae k9 ?_;simp -implicitDefEqProofs[jJ,-qA,-qB,Fct.res]
   ·rw[if_neg m0]at k8
    simp -implicitDefEqProofs[jJ,-qA,-qB];refine AA HR IC (by rfl) ?_
    simp -implicitDefEqProofs[jJ,-qA,-qB];refine Ae k5 ?_;simp -implicitDefEqProofs[jJ,-qA,-qB];refine Ac k4 ?_;simp -implicitDefEqProofs[jJ,-qA,-qB,h1];refine Ac k1 ?_;simp -implicitDefEqProofs[jJ,-qA,-qB,h2];refine Ac k7 ?_;simp -implicitDefEqProofs[jJ,-qA,-qB,Dw,m0];refine AA (Ah [0,0,2,7,15,31,31,0,191,511]) [.any [] [9] [⟨0,[],[9],[9],[]⟩,⟨0,[3],[9],[9],[]⟩,⟨0,[61],[9],[9],[]⟩,⟨0,[60,62],[9],[9],[]⟩,⟨0,[63],[9],[9],[]⟩,⟨0,[59],[9],[9],[]⟩,⟨0,[59],[9],[9],[]⟩,⟨1,[],[],[],[]⟩,⟨2,[9,64],[],[],[9]⟩],.one] (by rfl) ?_
    simp -implicitDefEqProofs[jJ,-qA,-qB];refine Ae k5 ?_;simp -implicitDefEqProofs[jJ,-qA,-qB];refine Ae k8 ?_;simp -implicitDefEqProofs[jJ,-qA,-qB];refine AA (Ah [0,1,0,0,12,28,0,127,255]) [.any [] [70] (AG [70] [[3],[66],[5],[4]]++[⟨4,[68,69],[],[],[]⟩]++[⟨0,[70],[],[],[]⟩]++[⟨0,[9],[],[70],[]⟩]),.one,.one] (by rfl) ?_
    simp -implicitDefEqProofs[jJ,-qA,-qB];refine Ae k2 ?_;simp -implicitDefEqProofs[jJ,-qA,-qB,Fct.res]
  ·rw[if_neg (fun h=>h2 h.2)]
   by_cases h3:m≠0∧(a=c∧b=d)∧cmpZ (toZ neg e*e) (toZ neg m*m)<0
   ·obtain⟨m0,⟨rfl,rfl⟩,h4⟩:=h3
    rw[if_pos ⟨m0,⟨rfl,rfl⟩,h4⟩]
    rw[if_pos ⟨by simp,m0,h4⟩]at k9
    simp -implicitDefEqProofs[jJ,-qA,-qB];refine AA HR IC (by rfl) ?_
    simp -implicitDefEqProofs[jJ,-qA,-qB];refine Ae k5 ?_;simp -implicitDefEqProofs[jJ,-qA,-qB];refine Ac k4 ?_;simp -implicitDefEqProofs[jJ,-qA,-qB,h1];refine Ac k1 ?_;simp -implicitDefEqProofs[jJ,-qA,-qB,h2];refine AA LD LZ (by rfl) ?_
    simp -implicitDefEqProofs[jJ,-qA,-qB];refine Ae k3 ?_;simp -implicitDefEqProofs[jJ,-qA,-qB];simp only[decide_true,Bool.and_true]at k9;refine Ae k9 ?_;simp -implicitDefEqProofs[jJ,-qA,-qB,Fct.res]
   ·rw[if_neg h3]
    rw[if_neg (fun h=>h3 ⟨h.2.1,by simpa using h.1,h.2.2⟩)]at k9
    simp -implicitDefEqProofs[jJ,-qA,-qB];refine AA HR IC (by rfl) ?_
    simp -implicitDefEqProofs[jJ,-qA,-qB];refine Ae k5 ?_;simp -implicitDefEqProofs[jJ,-qA,-qB];refine Ac k4 ?_;simp -implicitDefEqProofs[jJ,-qA,-qB,h1];refine Ac k1 ?_;simp -implicitDefEqProofs[jJ,-qA,-qB,h2];refine AA LD LZ (by rfl) ?_
    simp -implicitDefEqProofs[jJ,-qA,-qB];refine Ae k3 ?_;simp -implicitDefEqProofs[jJ,-qA,-qB];refine Ae k9 ?_;simp -implicitDefEqProofs[jJ,-qA,-qB,Fct.res]
end Go.Va
