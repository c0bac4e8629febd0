/- a part of the proof -/
import Derived.Test.YtlgoebgnbkhmmaaGreatDoorZao
import Derived.Test.YtlgoebgnbkhmmaaGreatDoorZzL
set_option linter.all false
set_option maxHeartbeats 4000000
set_option maxRecDepth 10000
namespace Go.Va
open Int renaming natCast_add → qA, natCast_mul → qB, natCast_emod → qC, natCast_ediv → qD, natCast_pow → qE
open List renaming reduceReplicate → qF
open Go.Proofs
theorem Hn{P:Program}{dst:Option Nat}{st:St}{K:St→Prop}{g:FuncId}{caps:List D}{us:List U}{i sz sz':Nat}{cs cs':List D}{app app':Bool}{r:R}
  (hc:Fw P g (us++caps.map fun d=> .c (.d d)) [(i,.row sz cs app)] [(i,.row sz' cs' app')] r) (hu: ∀u∈us,DB [i] u.all) (hb:lk i st.h=some (.row sz cs app)) (hk:K (st.backW dst [i] [(i,.row sz' cs' app')] r)):Qh P dst st K g caps us:=by
 refine⟨[i],r,_,_,hc,hu,fun j b h=> ?_,fun j hj=> ?_,hk⟩
 ·simp only[lk]at h;split at h
  ·rename_i e
   cases h;subst e
   exact⟨by simp,hb,trivial⟩
  ·cases h
 ·have:j=i:=by simpa using hj
  subst this;simp[lk]
def subS(q x y c b:Nat):Nat×Nat×Nat:=
 if (x:Int) - ((c+q*y)%65536:Nat) - b<0 then (x+65536 - (c+q*y)%65536 - b,1,(c+q*y)/65536) else (x - (c+q*y)%65536 - b,0,(c+q*y)/65536)
def subL(q:Nat):List Nat→List Nat→Nat→Nat→List Nat×Nat×Nat
 |[],_,c,b=>([],b,c)
 |x::u,v,c,b=>
  let s:=subS q x (v.headD 0) c b
  let r:=subL q u v.tail s.2.2 s.2.1
  (s.1::r.1,r.2)
theorem MU(q x:Nat): ∀(u v:List Nat) (c b:Nat),subL q (u++[x]) v c b=((subL q u v c b).1++[(subS q x (v.getD u.length 0) (subL q u v c b).2.2 (subL q u v c b).2.1).1],(subS q x (v.getD u.length 0) (subL q u v c b).2.2 (subL q u v c b).2.1).2)
 |[],v,c,b=>by
  cases v<;>rfl
 |y::u,v,c,b=>by
  have ih:=MU q x u v.tail (subS q y (v.headD 0) c b).2.2 (subS q y (v.headD 0) c b).2.1;have e:v.tail.getD u.length 0=v.getD (y::u).length 0:=by cases v<;>simp
  rw[e]at ih
  show(let s:=subS q y (v.headD 0) c b;let r:=subL q (u++[x]) v.tail s.2.2 s.2.1;(s.1::r.1,r.2))=_
  simp only[ih];rfl
theorem EE(q:Nat): ∀(u v:List Nat) (c b:Nat),(subL q u v c b).1.length=u.length
 |[],_,_,_=>rfl
 |x::u,v,c,b=>by
  show((subS q x (v.headD 0) c b).1::(subL q u v.tail (subS q x (v.headD 0) c b).2.2 (subS q x (v.headD 0) c b).2.1).1).length=_
  rw[List.length_cons,EE q u v.tail,List.length_cons]
theorem Qd{q x y c b:Nat}(hx:x<65536)(hy:y<65536)(hq:q≤65536)(hc:c<65536)(hb:b≤1):
  (subS q x y c b).1<65536∧(subS q x y c b).2.1≤1∧(subS q x y c b).2.2<65536∧(x:Int) - (q*y:Nat) - c - b=(subS q x y c b).1 - 65536*(((subS q x y c b).2.1:Int)+(subS q x y c b).2.2):=by
 have hm:q*y≤65536*65535:=Nat.mul_le_mul hq (by omega)
 unfold subS;generalize q*y=m at*;split
 ·refine⟨by simp only;omega,by simp,by simp only;omega,?_⟩
  simp only;omega
 ·refine⟨by simp only;omega,by simp,by simp only;omega,?_⟩
  simp only;omega
theorem LJ{v:List Nat}(h:Ok v):v.headD 0<65536:=by
 cases v with
 |nil=>simp
 |cons a v=>exact h.head
theorem Q4{v:List Nat}(h:Ok v):Ok v.tail:=by
 cases v with
 |nil=>exact Ok.nil
 |cons a v=>exact h.tail
theorem J7(v:List Nat):val v=v.headD 0+65536*val v.tail:=by
 cases v with
 |nil=>rfl
 |cons a v=>rfl
theorem GO{q:Nat}(hq:q≤65536): ∀(u v:List Nat) (c b:Nat),Ok u→Ok v→v.length≤u.length→c<65536→b≤1→
  Ok (subL q u v c b).1∧(subL q u v c b).2.1≤1∧(subL q u v c b).2.2<65536∧
  (val u:Int) - (q*val v:Nat) - c - b=val (subL q u v c b).1 - (65536^u.length:Nat)*(((subL q u v c b).2.1:Int)+(subL q u v c b).2.2)
 |[],v,c,b,_,_,hl,hc,hb=>by
  have:v=[]:=jzv.1 (by simpa using hl)
  subst this;refine⟨Ok.nil,hb,hc,?_⟩;simp[subL,val];omega
 |x::u,v,c,b,hu,hv,hl,hc,hb=>by
  obtain⟨s1,s2,s3,s4⟩:=Qd (q:=q) (c:=c) (b:=b) hu.head (LJ hv) hq hc hb
  have hl2:v.tail.length≤u.length:=by simp at hl ⊢;omega
  obtain⟨r1,r2,r3,r4⟩:=GO hq u v.tail _ _ hu.tail (Q4 hv) hl2 s3 s2
  have e:subL q (x::u) v c b=((subS q x (v.headD 0) c b).1::(subL q u v.tail (subS q x (v.headD 0) c b).2.2 (subS q x (v.headD 0) c b).2.1).1,(subL q u v.tail (subS q x (v.headD 0) c b).2.2 (subS q x (v.headD 0) c b).2.1).2):=rfl
  rw[e]
  simp only;generalize subS q x (v.headD 0) c b=s at*;generalize subL q u v.tail s.2.2 s.2.1=r at*;refine⟨Ok.cons s1 r1,r2,r3,?_⟩;have hv2:=J7 v;have hp:65536^(x::u).length=65536*65536^u.length:=by rw[List.length_cons,Nat.pow_succ,Nat.mul_comm]
  rw[hp,val,val]
  generalize 65536^u.length=p at*;generalize v.headD 0=y at*;have e1:q*val v=q*y+65536*(q*val v.tail):=by rw[hv2,Nat.mul_add,Nat.mul_left_comm]
  rw[e1]
  generalize q*val v.tail=m at*;generalize q*y=k at*;generalize val u=U at*;obtain⟨s1',s2',s3'⟩:=s;obtain⟨r1',r2',r3'⟩:=r;simp only at*;generalize val r1'=V at*;have e2:(65536*p:Nat)*((r2':Int)+r3')=65536*((p:Int)*((r2':Int)+r3')):=by rw[Int.natCast_mul,Int.mul_assoc];rfl
  rw[e2]
  generalize (p:Int)*((r2':Int)+r3')=z at*;omega
theorem GA{n:Int}(h: -2147483648≤n∧n≤2147483647):IntKind.i32.wrap n=n:=by
 have e:IntKind.i32.wrap n=if n%2^32≥2^(32 - 1) then n%2^32 - 2^32 else n%2^32:=by
  unfold IntKind.wrap;simp[IntKind.signed,IntKind.bits]
 rw[e]
 split<;>omega
theorem DV(n:Nat)(h:n<65536):IntKind.u16.wrap (n:Int)=n:=by
 have e:IntKind.u16.wrap (n:Int)=(n:Int)%2^16:=by
  unfold IntKind.wrap;simp[IntKind.signed,IntKind.bits]
 rw[e]
 omega
theorem Ck(l:List Nat)(k y:Nat)(h:k<l.length):splice k [D.int .u16 (y:Int)] (l.map u16)=(l.set k y).map u16:=by
 apply List.ext_getElem?
 intro j;rw[Df _ _ _ (by simp;omega),Bf,Bf,List.getElem?_set]
 by_cases e:j=k
 ·subst e;simp[h,u16]
 ·rw[if_neg (by simp;omega),if_neg (by omega)]
theorem Fa:IntKind.i32.min= -2147483648:=rfl
theorem Fh:IntKind.i32.max=2147483647:=rfl
theorem jbY(q:Nat)(u v:List Nat)(hq:q≤65536)(hu:Ok u)(hv:Ok v)(hvl:v.length≤1000): ∃(W:Nat→List Nat) (B K:Nat→Nat),W 0=u∧B 0=0∧K 0=0∧W u.length=(subL q u v 0 0).1∧B u.length=(subL q u v 0 0).2.1∧
  (∀i,i≤u.length→(W i).length=u.length)∧(∀i (h:i<u.length),(W i)[i]? =some u[i])∧(∀i,i≤u.length→B i≤1)∧(∀i,i≤u.length→K i<65536)∧
  ∀i (h:i<u.length),(W i).set i (subS q u[i] (v.getD i 0) (K i) (B i)).1=W (i+1)∧B (i+1)=(subS q u[i] (v.getD i 0) (K i) (B i)).2.1∧K (i+1)=(subS q u[i] (v.getD i 0) (K i) (B i)).2.2:=by
 have hll: ∀i,i≤u.length→(subL q (u.take i) v 0 0).1.length=i:=fun i hi=>by
  rw[EE,A8,Bs hi]
 have hsn: ∀i (h:i<u.length),subL q (u.take (i+1)) v 0 0=((subL q (u.take i) v 0 0).1++[(subS q u[i] (v.getD i 0) (subL q (u.take i) v 0 0).2.2 (subL q (u.take i) v 0 0).2.1).1],(subS q u[i] (v.getD i 0) (subL q (u.take i) v 0 0).2.2 (subL q (u.take i) v 0 0).2.1).2):=fun i h=>by
  have:=MU q u[i] (u.take i) v 0 0
  rw[←Cr h,A8,Bs (by omega)]at this
  exact this
 have hbc: ∀i,i≤u.length→(subL q (u.take i) v 0 0).2.1≤1∧(subL q (u.take i) v 0 0).2.2<65536:=by
  intro i
  induction i with
  |zero=>intro _;simp[subL]
  |succ i ih=>
   intro h;have h1:=ih (by omega)
   rw[hsn i (by omega)]
   have hy:v.getD i 0<65536:=by
    rcases Nat.lt_or_ge i v.length with hi|hi
    ·rw[AL,AD hi];exact hv _ (AZ hi)
    ·rw[AL,B9 hi];simp
   have:=Qd (hu _ (AZ (show i<u.length by omega))) hy hq h1.2 h1.1
   exact⟨this.2.1,this.2.2.1⟩
 refine⟨fun i=>(subL q (u.take i) v 0 0).1++u.drop i,fun i=>(subL q (u.take i) v 0 0).2.1,fun i=>(subL q (u.take i) v 0 0).2.2,by simp[subL],by simp[subL],by simp[subL],by simp,by simp,fun i hi=> ?_,fun i h=> ?_,fun i hi=>(hbc i hi).1,fun i hi=>(hbc i hi).2,fun i h=>⟨?_,?_,?_⟩⟩
 ·rw[List.length_append,hll i hi,List.length_drop];omega
 ·rw[List.getElem?_append_right (by rw[hll i (by omega)];exact AO _),hll i (by omega),Nat.sub_self,List.getElem?_drop];simp[h]
 ·simp only;rw[hsn i h,List.set_append_right _ _ (by rw[hll i (by omega)];exact AO _),hll i (by omega),Nat.sub_self,List.append_assoc,BQ h];rfl
 ·simp only[hsn i h]
 ·simp only[hsn i h]
theorem OB(i off:Nat)(cs:List Nat)(app:Bool)(u v:List Nat)(q:Nat)(R0:List (Nat×Blk))(hR: ∀j b,lk j R0=some b→j≠i∧ ∃sz cs app,b= .row sz cs app)(c:C)(hv:NO R0 c (Ad v))
  (hu:Ok u) (hov:Ok v) (h0:u≠[]) (hul:u.length≤1000) (hvl:v.length≤1000) (hq:q≤65536) (hcut:AP off u.length cs=u) (hoff:off+u.length≤cs.length):
  Fw Tryz.prog 411 (.c (.sl i off u.length)::[(c,Ad v),(.d (.int .u32 q),.int .u32 q)].map fun w=> .c w.1) ((i,.row 1 (cs.map u16) app)::R0)
   ((i,.row 1 (splice (off*1) ((subL q u v 0 0).1.map u16) (cs.map u16)) app)::R0) (.u (.c (.d (.bool (decide (0<(subL q u v 0 0).2.1)))))):=by
 have hpos:0<u.length:=List.length_pos_iff.2 h0;refine RY (T:=tb) Ak mixed Tryz.func411 rfl (by decide) (Al rfl) rfl rfl ?_ ?_ ?_ ?_ ?_ ?_ ?_
 ·exact hpos
 ·simp;omega
 ·simp[EE]
 ·intro x hx;obtain⟨y,_,rfl⟩:=jzk.1 hx;rfl
 ·exact hR
 ·intro w hw;simp only[jzn,E8,or_false]at hw;rcases hw with rfl|rfl
  ·exact hv
  ·exact .inl rfl
 ·have ec:AP (off*1) (u.length*1) (cs.map u16)=u.map u16:=by
   rw[Nat.mul_one,Nat.mul_one]
   unfold AP at hcut ⊢;rw[←List.map_drop,←List.map_take,hcut]
  rw[ec]
  unfold St.initS;obtain⟨W,B,K,hW0,hB0,hK0,hWn,hBn,hWl,hWg,hBl,hKl,hst⟩:=jbY q u v hq hu hov hvl;rw[←hWn,←hBn];simp -implicitDefEqProofs[jJ,-qA,-qB,-qC,-qD,-qE,-List.map_set,BK];refine AV (fun i:Nat=>⟨[(13,vI .i64 i),(12,vI .i64 u.length),(8,vI .i32 (B i)),(7,vI .u32 (K i)),(0,vC (.sl 2000000 0 u.length)),(1,vC (.d (Ad v))),(2,vI .u32 q)],
   [(2000000,.row 1 ((W i).map u16) false)]⟩) (fun i=>i≤u.length) (fun i=>u.length - i) 0 (by simp[AW,lk,St.le,vI,vC,hW0,hB0,hK0]) (by omega) ?_
  rintro k hk
  have hl:=hWl k hk;by_cases h:k<u.length
  ·have hx:u[k]<65536:=hu _ (AZ h);have hg:=hWg k h;have hb:=hBl k hk;have hc:=hKl k hk;have hs:=hst k h;by_cases hv2:k<v.length
   ·have hy:v[k]<65536:=hov _ (AZ hv2);have ey:v.getD k 0=v[k]:=by rw[AL,AD hv2];rfl
    rw[ey]at hs
    have m1:q*v[k]≤65536*65535:=Nat.mul_le_mul hq (by omega)
    have m2:q*v[k]%4294967296=q*v[k]:=AX (by omega)
    have m3:(K k+q*v[k])%4294967296=K k+q*v[k]:=AX (by omega)
    have w1:IntKind.i32.wrap (u[k]:Int)=u[k]:=GA (by omega)
    generalize hT:(K k+q*v[k])%65536=t at*;have tl:t<65536:=by omega
    have w2:IntKind.i32.wrap (t:Int)=t:=GA (by omega)
    unfold subS at hs;rw[hT]at hs;by_cases hd:(u[k]:Int) - (t:Nat) - (B k:Nat)<0
    ·rw[if_pos hd]at hs
     have e:(u[k]:Int) - (t:Nat) - (B k:Nat)+65536=((u[k]+65536 - t - B k:Nat):Int):=by omega
     simp -implicitDefEqProofs[jJ,-qA,-qB,-qC,-qD,-qE,-List.map_set,h,hv2,m2,m3,hg,hT,u16,w1,w2,Fa,Fh,hd];refine⟨by omega,by omega,by omega,by omega,by omega,k+1,⟨⟨rfl,hs.2.1.symm,hs.2.2.symm⟩,?_⟩,by omega,by omega⟩
     rw[e,DV _ (by omega),Ck _ _ _ (by omega)]
     exact congrArg (List.map u16) hs.1
    ·rw[if_neg hd]at hs
     have e:(u[k]:Int) - (t:Nat) - (B k:Nat)=((u[k] - t - B k:Nat):Int):=by omega
     simp -implicitDefEqProofs[jJ,-qA,-qB,-qC,-qD,-qE,-List.map_set,h,hv2,m2,m3,hg,hT,u16,w1,w2,Fa,Fh,hd];refine⟨by omega,by omega,by omega,by omega,k+1,⟨⟨rfl,hs.2.1.symm,hs.2.2.symm⟩,?_⟩,by omega,by omega⟩
     rw[e,DV _ (by omega),Ck _ _ _ (by omega)]
     exact congrArg (List.map u16) hs.1
   ·have ey:v.getD k 0=0:=by rw[AL,B9 (by omega)];rfl
    rw[ey]at hs
    have w1:IntKind.i32.wrap (u[k]:Int)=u[k]:=GA (by omega)
    generalize hT:(K k)%65536=t at*;have tl:t<65536:=by omega
    have w2:IntKind.i32.wrap (t:Int)=t:=GA (by omega)
    unfold subS at hs;simp only[Nat.mul_zero,Nat.add_zero,hT]at hs;by_cases hd:(u[k]:Int) - (t:Nat) - (B k:Nat)<0
    ·rw[if_pos hd]at hs
     have e:(u[k]:Int) - (t:Nat) - (B k:Nat)+65536=((u[k]+65536 - t - B k:Nat):Int):=by omega
     simp -implicitDefEqProofs[jJ,-qA,-qB,-qC,-qD,-qE,-List.map_set,h,hv2,hg,hT,u16,w1,w2,Fa,Fh,hd];refine⟨by omega,by omega,by omega,by omega,by omega,k+1,⟨⟨rfl,hs.2.1.symm,hs.2.2.symm⟩,?_⟩,by omega,by omega⟩
     rw[e,DV _ (by omega),Ck _ _ _ (by omega)]
     exact congrArg (List.map u16) hs.1
    ·rw[if_neg hd]at hs
     have e:(u[k]:Int) - (t:Nat) - (B k:Nat)=((u[k] - t - B k:Nat):Int):=by omega
     simp -implicitDefEqProofs[jJ,-qA,-qB,-qC,-qD,-qE,-List.map_set,h,hv2,hg,hT,u16,w1,w2,Fa,Fh,hd];refine⟨by omega,by omega,by omega,by omega,k+1,⟨⟨rfl,hs.2.1.symm,hs.2.2.symm⟩,?_⟩,by omega,by omega⟩
     rw[e,DV _ (by omega),Ck _ _ _ (by omega)]
     exact congrArg (List.map u16) hs.1
  ·have hk2:k=u.length:=by omega
   subst hk2;simp -implicitDefEqProofs[jJ,-qA,-qB,-qC,-qD,-qE,-List.map_set,h];exact⟨.inl rfl,by simp[lk,BK,vC],by simp[lk,BK],vC (.d (.bool _)),rfl,.inr (.inl ⟨_,rfl,rfl,rfl⟩)⟩
def addS(x y c:Nat):Nat×Nat:=((c+x+y)%65536,(c+x+y)/65536)
def addL:List Nat→List Nat→Nat→List Nat×Nat
 |[],_,c=>([],c)
 |x::u,v,c=>
  let s:=addS x (v.headD 0) c
  let r:=addL u v.tail s.2
  (s.1::r.1,r.2)
theorem Qb(x:Nat): ∀(u v:List Nat) (c:Nat),addL (u++[x]) v c=((addL u v c).1++[(addS x (v.getD u.length 0) (addL u v c).2).1],(addS x (v.getD u.length 0) (addL u v c).2).2)
 |[],v,c=>by
  cases v<;>rfl
 |y::u,v,c=>by
  have ih:=Qb x u v.tail (addS y (v.headD 0) c).2;have e:v.tail.getD u.length 0=v.getD (y::u).length 0:=by cases v<;>simp
  rw[e]at ih
  show(let s:=addS y (v.headD 0) c;let r:=addL (u++[x]) v.tail s.2;(s.1::r.1,r.2))=_
  simp only[ih];rfl
theorem G5: ∀(u v:List Nat) (c:Nat),(addL u v c).1.length=u.length
 |[],_,_=>rfl
 |x::u,v,c=>by
  show((addS x (v.headD 0) c).1::(addL u v.tail (addS x (v.headD 0) c).2).1).length=_
  rw[List.length_cons,G5 u v.tail,List.length_cons]
theorem UR: ∀(u v:List Nat) (c:Nat),Ok u→Ok v→v.length≤u.length→c≤1→
  Ok (addL u v c).1∧(addL u v c).2≤1∧val u+val v+c=val (addL u v c).1+65536^u.length*(addL u v c).2
 |[],v,c,_,_,hl,hc=>by
  have:v=[]:=jzv.1 (by simpa using hl)
  subst this;refine⟨Ok.nil,hc,?_⟩;simp[addL,val]
 |x::u,v,c,hu,hv,hl,hc=>by
  have hx:=hu.head;have hy:=LJ hv;have hl2:v.tail.length≤u.length:=by simp at hl ⊢;omega
  have hs:(addS x (v.headD 0) c).1<65536∧(addS x (v.headD 0) c).2≤1∧x+v.headD 0+c=(addS x (v.headD 0) c).1+65536*(addS x (v.headD 0) c).2:=by
   unfold addS;simp only;omega
  obtain⟨r1,r2,r3⟩:=UR u v.tail _ hu.tail (Q4 hv) hl2 hs.2.1
  have e:addL (x::u) v c=((addS x (v.headD 0) c).1::(addL u v.tail (addS x (v.headD 0) c).2).1,(addL u v.tail (addS x (v.headD 0) c).2).2):=rfl
  rw[e]
  simp only;generalize addS x (v.headD 0) c=s at*;generalize addL u v.tail s.2=r at*;refine⟨Ok.cons hs.1 r1,r2,?_⟩;have hv2:=J7 v;have hp:65536^(x::u).length=65536*65536^u.length:=by rw[List.length_cons,Nat.pow_succ,Nat.mul_comm]
  rw[hp,val,val,Nat.mul_assoc]
  generalize 65536^u.length*r.2=z at*;omega
theorem WC(u v:List Nat)(hu:Ok u)(hv:Ok v): ∃(W:Nat→List Nat) (K:Nat→Nat),W 0=u∧K 0=0∧W u.length=(addL u v 0).1∧
  (∀i,i≤u.length→(W i).length=u.length)∧(∀i (h:i<u.length),(W i)[i]? =some u[i])∧(∀i,i≤u.length→K i≤1)∧
  ∀i (h:i<u.length),(W i).set i (addS u[i] (v.getD i 0) (K i)).1=W (i+1)∧K (i+1)=(addS u[i] (v.getD i 0) (K i)).2:=by
 have hll: ∀i,i≤u.length→(addL (u.take i) v 0).1.length=i:=fun i hi=>by
  rw[G5,A8,Bs hi]
 have hsn: ∀i (h:i<u.length),addL (u.take (i+1)) v 0=((addL (u.take i) v 0).1++[(addS u[i] (v.getD i 0) (addL (u.take i) v 0).2).1],(addS u[i] (v.getD i 0) (addL (u.take i) v 0).2).2):=fun i h=>by
  have:=Qb u[i] (u.take i) v 0
  rw[←Cr h,A8,Bs (by omega)]at this
  exact this
 have hbc: ∀i,i≤u.length→(addL (u.take i) v 0).2≤1:=by
  intro i
  induction i with
  |zero=>intro _;simp[addL]
  |succ i ih=>
   intro h;have h1:=ih (by omega)
   rw[hsn i (by omega)]
   have hy:v.getD i 0<65536:=by
    rcases Nat.lt_or_ge i v.length with hi|hi
    ·rw[AL,AD hi];exact hv _ (AZ hi)
    ·rw[AL,B9 hi];simp
   have hx:=hu _ (AZ (show i<u.length by omega))
   unfold addS;simp only;omega
 refine⟨fun i=>(addL (u.take i) v 0).1++u.drop i,fun i=>(addL (u.take i) v 0).2,by simp[addL],by simp[addL],by simp,fun i hi=> ?_,fun i h=> ?_,fun i hi=>hbc i hi,fun i h=>⟨?_,?_⟩⟩
 ·rw[List.length_append,hll i hi,List.length_drop];omega
 ·rw[List.getElem?_append_right (by rw[hll i (by omega)];exact AO _),hll i (by omega),Nat.sub_self,List.getElem?_drop];simp[h]
 ·simp only;rw[hsn i h,List.set_append_right _ _ (by rw[hll i (by omega)];exact AO _),hll i (by omega),Nat.sub_self,List.append_assoc,BQ h];rfl
 ·simp only[hsn i h]
theorem Rk(i off:Nat)(cs:List Nat)(app:Bool)(u v:List Nat)(R0:List (Nat×Blk))(hR: ∀j b,lk j R0=some b→j≠i∧ ∃sz cs app,b= .row sz cs app)(c:C)(hv:NO R0 c (Ad v))
  (hu:Ok u) (hov:Ok v) (h0:u≠[]) (hul:u.length≤1000) (hvl:v.length≤1000) (hcut:AP off u.length cs=u) (hoff:off+u.length≤cs.length):
  Fw Tryz.prog 412 (.c (.sl i off u.length)::[(c,Ad v)].map fun w=> .c w.1) ((i,.row 1 (cs.map u16) app)::R0)
   ((i,.row 1 (splice (off*1) ((addL u v 0).1.map u16) (cs.map u16)) app)::R0) (.tup []):=by
 have hpos:0<u.length:=List.length_pos_iff.2 h0;refine RY (T:=tb) Ak mixed Tryz.func412 rfl (by decide) (Al rfl) rfl rfl ?_ ?_ ?_ ?_ ?_ ?_ ?_
 ·exact hpos
 ·simp;omega
 ·simp[G5]
 ·intro x hx;obtain⟨y,_,rfl⟩:=jzk.1 hx;rfl
 ·exact hR
 ·intro w hw;simp only[jzn,E8,or_false]at hw;rcases hw with rfl
  exact hv
 ·have ec:AP (off*1) (u.length*1) (cs.map u16)=u.map u16:=by
   rw[Nat.mul_one,Nat.mul_one]
   unfold AP at hcut ⊢;rw[←List.map_drop,←List.map_take,hcut]
  rw[ec]
  unfold St.initS;obtain⟨W,K,hW0,hK0,hWn,hWl,hWg,hKl,hst⟩:=WC u v hu hov;rw[←hWn];simp -implicitDefEqProofs[jJ,-qA,-qB,-qC,-qD,-qE,-List.map_set,BK];refine AV (fun i:Nat=>⟨[(8,vI .i64 i),(7,vI .i64 u.length),(4,vI .u32 (K i)),(0,vC (.sl 2000000 0 u.length)),(1,vC (.d (Ad v)))],
   [(2000000,.row 1 ((W i).map u16) false)]⟩) (fun i=>i≤u.length) (fun i=>u.length - i) 0 (by simp[AW,lk,St.le,vI,vC,hW0,hK0]) (by omega) ?_
  rintro k hk
  have hl:=hWl k hk;by_cases h:k<u.length
  ·have hx:u[k]<65536:=hu _ (AZ h);have hg:=hWg k h;have hc:=hKl k hk;have hs:=hst k h;unfold addS at hs;by_cases hv2:k<v.length
   ·have hy:v[k]<65536:=hov _ (AZ hv2);have ey:v.getD k 0=v[k]:=by rw[AL,AD hv2];rfl
    rw[ey]at hs
    have m2:(K k+u[k])%4294967296=K k+u[k]:=AX (by omega)
    have m3:(K k+u[k]+v[k])%4294967296=K k+u[k]+v[k]:=AX (by omega)
    simp -implicitDefEqProofs[jJ,-qA,-qB,-qC,-qD,-qE,-List.map_set,h,hv2,hg,m2,m3,u16];refine⟨by omega,by omega,k+1,⟨⟨rfl,hs.2.symm⟩,?_⟩,by omega,by omega⟩
    rw[Ck _ _ _ (by omega)]
    exact congrArg (List.map u16) hs.1
   ·have ey:v.getD k 0=0:=by rw[AL,B9 (by omega)];rfl
    rw[ey]at hs
    have m2:(K k+u[k])%4294967296=K k+u[k]:=AX (by omega)
    simp only[Nat.add_zero]at hs;simp -implicitDefEqProofs[jJ,-qA,-qB,-qC,-qD,-qE,-List.map_set,h,hv2,hg,m2,u16];refine⟨by omega,by omega,k+1,⟨⟨rfl,hs.2.symm⟩,?_⟩,by omega,by omega⟩
    rw[Ck _ _ _ (by omega)]
    exact congrArg (List.map u16) hs.1
  ·have hk2:k=u.length:=by omega
   subst hk2;simp -implicitDefEqProofs[jJ,-qA,-qB,-qC,-qD,-qE,-List.map_set,h];exact⟨.inr rfl,by simp[lk,BK,vC],by simp[lk,BK],.tup [],rfl,.inl ⟨rfl,rfl⟩⟩
def Pu:List (List Nat):=(Ah [0,1,3,7,7,7,39,119,247,503,1023,7,2055,7,7,7,49159,114695,253959,516103,1040391,2095111,4194303,8388607,16777215])
@[simp]def Sj:List Seg:=[.one,.one,.one,.any [] [] (Aq [[0,9],[1,9],[2,9],[12,9],[11,13,9],[14,9],[15,9],[10,16,9],[3,9],[18,9],[4,9],[5,9],[2,9],[21,22,9],[23,9],[20,24,9],[25,9],[26,9],[19,27,9]]),.one,.one,.one]
theorem QM(r x:Nat)(hr:r<281474976710656)(hx:x<65536):Da .u64 (CW .u64 (r:Int) 16) (x:Int)=((r*65536+x:Nat):Int):=by
 have e:CW .u64 (r:Int) 16=((r*65536:Nat):Int):=by
  have:=QL r 16 (by omega)
  rw[show(2:Nat)^16=65536 from by decide,AX (by omega)]at this
  exact this
 rw[e,QU _ _ (by omega) (by omega),Nat.or_comm]
 have:=IM x r 16 (by omega)
 rw[show(2:Nat)^16=65536 from by decide,Nat.mul_comm 65536 r]at this
 rw[this,Nat.add_comm]
theorem jkn(q r n j:Nat)(u v:List Nat)(hn:2≤n)(hv:v.length=n)(hj:j+n≤u.length)(hul:u.length≤1000)(ou:Ok u)(ov:Ok v)(hq:q≤1000000)(hr:r<65536):
  CallsF Tryz.prog 410 [.c (.ref [.int .u64 q]),.c (.ref [Ad v]),.c (.ref [.int .i64 n]),.c (.ref [.int .u64 r]),.c (.ref [Ad u]),.c (.ref [.int .i64 j])]
   (.u (.c (.d (.bool (decide (65536≤q)||decide (r*65536+u.getD (j+n - 2) 0<q*v.getD (n - 2) 0)))))):=by
 have h1:n - 2<v.length:=by omega
 have h2:j+n - 2<u.length:=by omega
 have e1:v.getD (n - 2) 0=v[n - 2]:=by rw[AL,AD h1];rfl
 have e2:u.getD (j+n - 2) 0=u[j+n - 2]:=by rw[AL,AD h2];rfl
 rw[e1,e2]
 have x1:v[n - 2]<65536:=ov _ (AZ h1);have x2:u[j+n - 2]<65536:=ou _ (AZ h2);have g1:v[n - 2]? =some v[n - 2]:=AD h1;have g2:u[j+n - 2]? =some u[j+n - 2]:=AD h2;generalize v[n - 2]=y at*;generalize u[j+n - 2]=x at*;have m1:q*y≤1000000*65535:=Nat.mul_le_mul hq (by omega)
 have m2:q*y%18446744073709551616=q*y:=AX (by omega)
 have o1:=QM r x (by omega) x2
 refine cO Tryz.func410 rfl ?_;by_cases hb:65536≤q
 ·simp (maxSteps:=2000000) -implicitDefEqProofs[jJ,-qA,-qB,-qC,-qD,-qE,hb];refine AA Pu Sj (by rfl) ?_
  simp (maxSteps:=2000000) -implicitDefEqProofs[jJ,-qA,-qB,-qC,-qD,-qE,hb]
 ·have n1:(n:Int) - 2=((n - 2:Nat):Int):=by omega
  have n2:((j+n:Nat):Int) - 2=((j+n - 2:Nat):Int):=by omega
  simp (maxSteps:=2000000) -implicitDefEqProofs[jJ,-qA,-qB,-qC,-qD,-qE,hb];refine AA Pu Sj (by rfl) ?_
  have m0:x%18446744073709551616=x:=AX (by omega)
  have m3:y%18446744073709551616=y:=AX (by omega)
  simp (maxSteps:=2000000) -implicitDefEqProofs[jJ,-qA,-qB,-qC,-qD,-qE,hb,n1,n2,g1,g2,m0,m2,m3,o1,u16];omega
def dl(d:Nat):List Nat→List Nat×Nat
 |[]=>([],0)
 |x::a=>(((dl d a).2*65536+x)/d::(dl d a).1,((dl d a).2*65536+x)%d)
theorem Kj{d:Nat}(hd:0<d)(hd2:d<65536): ∀a:List Nat,Ok a→val (dl d a).1*d+(dl d a).2=val a∧(dl d a).2<d∧Ok (dl d a).1∧(dl d a).1.length=a.length
 |[],_=>⟨by simp[dl,val],hd,Ok.nil,rfl⟩
 |x::a,h=>by
  obtain⟨h1,h2,h3,h4⟩:=Kj hd hd2 a h.tail
  have hx:=h.head
  show val (((dl d a).2*65536+x)/d::(dl d a).1)*d+((dl d a).2*65536+x)%d=val (x::a)∧((dl d a).2*65536+x)%d<d∧Ok (((dl d a).2*65536+x)/d::(dl d a).1)∧(((dl d a).2*65536+x)/d::(dl d a).1).length=(x::a).length
  generalize dl d a=s at*;obtain⟨q,r⟩:=s;simp only at*;have hq:(r*65536+x)/d<65536:=by
   rw[Nat.div_lt_iff_lt_mul hd]
   have:(r+1)*65536≤d*65536:=BC _ h2
   omega
  refine⟨?_,Nat.mod_lt _ hd,Ok.cons hq h3,by simp[h4]⟩
  have hdm:=Nat.div_add_mod (r*65536+x) d;rw[Nat.mul_comm]at hdm;rw[val,val,Nat.add_mul,Nat.mul_assoc];generalize (r*65536+x)/d*d=A at*;generalize val q*d=B at*;omega
theorem je2{d:Nat}(hd:0<d)(hd2:d<65536){a:List Nat}(ha:Ok a):val (dl d a).1=val a/d∧(dl d a).2=val a%d:=by
 obtain⟨h1,h2,_,_⟩:=Kj hd hd2 a ha
 rw[←h1]
 constructor
 ·rw[Nat.mul_comm,Nat.mul_add_div hd,Nat.div_eq_of_lt h2,Nat.add_zero]
 ·rw[Nat.mul_comm,Nat.mul_add_mod,AX h2]
theorem jcu(r x:Nat)(hr:r<65536)(hx:x<65536):Da .u32 (CW .u32 (r:Int) 16) (x:Int)=((r*65536+x:Nat):Int):=by
 have e:CW .u32 (r:Int) 16=((r*65536:Nat):Int):=by
  have:=Lu r 16 (by omega)
  rw[show(2:Nat)^16=65536 from by decide,AX (by omega)]at this
  exact this
 rw[e,Rf _ _ (by omega) (by omega),Nat.or_comm]
 have:=IM x r 16 (by omega)
 rw[show(2:Nat)^16=65536 from by decide,Nat.mul_comm 65536 r]at this
 rw[this,Nat.add_comm]
theorem Sd(a:List Nat)(d:Nat)(ha:Ok a)(hl:a.length≤1000)(hd:0<d)(hd2:d<65536):
  CallsF Tryz.prog 343 [.c (Ad a),.c (.int .u16 d)] (.tup [.c (.d (Ad (limbs (val a/d)))),.c (.d (.int .u16 (val a%d:Nat)))]):=by
 obtain⟨e1,e2⟩:=je2 hd hd2 ha
 obtain⟨_,hr,ho,hlen⟩:=Kj hd hd2 a ha
 have kt:=B2 (dl d a).1 ho (by omega)
 rw[e1]at kt
 rw[←e2]
 obtain⟨W,R,J,hW0,hR0,hWn,hRn,hJ0,hJn,hJ,hJs,hst⟩: ∃(W:Nat→List Nat) (R:Nat→Nat) (J:Nat→Int),W 0=List.replicate a.length 0∧R 0=0∧W a.length=(dl d a).1∧R a.length=(dl d a).2∧J 0=(a.length:Int) - 1∧J a.length= -1∧
   (∀k,k<a.length→ ∃j:Nat,J k=j∧j+1+k=a.length)∧(∀k,k<a.length→J (k+1)=J k - 1)∧
   ∀k (_:k<a.length) (j:Nat),J k=j→(W k).length=a.length∧R k<d∧ ∃hj:j<a.length,W (k+1)=(W k).set j ((R k*65536+a[j])/d)∧R (k+1)=(R k*65536+a[j])%d:=by
  refine⟨fun k=>List.replicate (a.length - k) 0++(dl d (a.drop (a.length - k))).1,fun k=>(dl d (a.drop (a.length - k))).2,fun k=>(a.length:Int) - 1 - k,by simp[dl],by simp[dl],by simp,by simp,by simp,by simp only;omega,fun k hk=>⟨a.length - 1 - k,by simp only;omega,by omega⟩,fun k hk=>by simp only;omega,fun k hk j hj=> ?_⟩
  have hj':(a.length:Int) - 1 - k=j:=hj
  have hj2:j=a.length - 1 - k:=by omega
  have hdr:a.drop j=a[j]'(by omega)::a.drop (j+1):=BQ (by omega)
  have oa:Ok (a.drop (j+1)):=fun y hy=>ha y (List.mem_of_mem_drop hy)
  obtain⟨_,s2,_,s4⟩:=Kj hd hd2 _ oa
  simp only;rw[show a.length - k=j+1 by omega,show a.length - (k+1)=j by omega]
  refine⟨?_,s2,by omega,?_,?_⟩
  ·rw[List.length_append,List.length_replicate,s4,List.length_drop];omega
  ·rw[hdr,dl,List.set_append_left _ _ (by simp),List.replicate_succ',List.set_append_right _ _ (by simp)]
   simp
  ·rw[hdr,dl]
 rw[←hWn]at kt
 rw[←hRn]
 have hWl:(W a.length).length=a.length:=by rw[hWn];exact hlen
 refine cO Tryz.func343 rfl ?_;simp -implicitDefEqProofs[jJ,-qA,-qB,-qC,-qD,-qE,-List.map_set];refine⟨by omega,by omega,?_⟩
 refine AV (fun k:Nat=>⟨[(8,vI .i64 (J k)),(7,vI .u32 (R k)),(6,vC (.sl 11 0 a.length)),(0,vC (.d (Ad a))),(1,.u (.c (.d (.int .u16 d))))],[(11,.row 1 ((W k).map u16) true)]⟩) (fun k=>k≤a.length) (fun k=>a.length - k) 0
  (by simp[AW,lk,St.le,vI,vC,hW0,hR0,hJ0,u16]) (by omega) ?_
 rintro k hk
 by_cases h:k<a.length
 ·obtain⟨j,hj,hj2⟩:=hJ k h
  have hjs:=hJs k h;obtain⟨hwl,hrd,hja,hW1,hR1⟩:=hst k h j hj;rw[hj]at hjs ⊢;have hx:a[j]<65536:=ha _ (AZ hja);have oh:=jcu (R k) a[j] (by omega) hx
  have nz: ¬d=0:=by omega
  have hq:(R k*65536+a[j])/d<65536:=by
   rw[Nat.div_lt_iff_lt_mul hd]
   have:(R k+1)*65536≤d*65536:=BC _ hrd
   omega
  have m1:a[j]%4294967296=a[j]:=AX (by omega)
  have m2:d%4294967296=d:=AX (by omega)
  have m3:(R k*65536+a[j])/d%4294967296=(R k*65536+a[j])/d:=AX (by omega)
  have m4:(R k*65536+a[j])/d%65536=(R k*65536+a[j])/d:=AX hq
  simp -implicitDefEqProofs[jJ,-qA,-qB,-qC,-qD,-qE,-List.map_set,hja,oh,u16,nz,m1,m2,m3,m4];refine⟨by omega,by omega,k+1,⟨⟨by rw[hjs],hR1.symm⟩,?_⟩,by omega,by omega⟩
  rw[Ck _ _ _ (by omega),hW1]
 ·have hk2:k=a.length:=by omega
  subst hk2;have et:List.take a.length (List.map u16 (W a.length))=List.map u16 (W a.length):=Ba (by simp[hWl])
  have en:D.slice a.length (List.map u16 (W a.length))=Ad (W a.length):=by
   show _=D.slice (W a.length).length _
   rw[hWl]
  have m5:R a.length%65536=R a.length:=AX (by rw[hRn];omega)
  rw[hJn]
  simp -implicitDefEqProofs[jJ,-qA,-qB,-qC,-qD,-qE,-List.map_set,et,en];refine .inl ⟨by omega,_,kt,?_⟩
  simp -implicitDefEqProofs[jJ,-qA,-qB,-qC,-qD,-qE,-List.map_set,m5]
end Go.Va
