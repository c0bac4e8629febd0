/- a part of the proof -/
import Derived.Test.YtkajmpgbnbikiaaGreatDoorMan
import Derived.Test.YtkajmpgbnbikiaaGreatDoorMzL
set_option linter.all false
set_option maxHeartbeats 4000000
set_option maxRecDepth 10000
namespace Go.Va
open Int (natCast_add natCast_mul natCast_emod natCast_ediv natCast_pow)
open Go.Proofs
def subS(q x y c b:Nat):Nat×Nat×Nat:=
 if (x:Int) - ((c+q*y)%65536:Nat) - b<0 then (x+65536 - (c+q*y)%65536 - b,1,(c+q*y)/65536) else (x - (c+q*y)%65536 - b,0,(c+q*y)/65536)
def subL(q:Nat):List Nat→List Nat→Nat→Nat→List Nat×Nat×Nat
 |[],_,c,b=>([],b,c)
 |x::u,v,c,b=>
  let s:=subS q x (v.headD 0) c b
  let r:=subL q u v.tail s.2.2 s.2.1
  (s.1::r.1,r.2)
theorem MV(q x:Nat): ∀(u v:List Nat) (c b:Nat),subL q (u++[x]) v c b=((subL q u v c b).1++[(subS q x (v.getD u.length 0) (subL q u v c b).2.2 (subL q u v c b).2.1).1],(subS q x (v.getD u.length 0) (subL q u v c b).2.2 (subL q u v c b).2.1).2)
 |[],v,c,b=>by
  cases v<;>rfl
 |y::u,v,c,b=>by
  have ih:=MV q x u v.tail (subS q y (v.headD 0) c b).2.2 (subS q y (v.headD 0) c b).2.1;have e:v.tail.getD u.length 0=v.getD (y::u).length 0:=by cases v<;>simp
  rw[e]at ih
  show(let s:=subS q y (v.headD 0) c b;let r:=subL q (u++[x]) v.tail s.2.2 s.2.1;(s.1::r.1,r.2))=_
  simp only[ih];rfl
theorem Fb(q:Nat): ∀(u v:List Nat) (c b:Nat),(subL q u v c b).1.length=u.length
 |[],_,_,_=>rfl
 |x::u,v,c,b=>by
  show((subS q x (v.headD 0) c b).1::(subL q u v.tail (subS q x (v.headD 0) c b).2.2 (subS q x (v.headD 0) c b).2.1).1).length=_
  rw[List.length_cons,Fb q u v.tail,List.length_cons]
theorem Uw{q x y c b:Nat}(hx:x<65536)(hy:y<65536)(hq:q≤65536)(hc:c<65536)(hb:b≤1):
  (subS q x y c b).1<65536∧(subS q x y c b).2.1≤1∧(subS q x y c b).2.2<65536∧(x:Int) - (q*y:Nat) - c - b=(subS q x y c b).1 - 65536*(((subS q x y c b).2.1:Int)+(subS q x y c b).2.2):=by
 have hm:q*y≤65536*65535:=Nat.mul_le_mul hq (by omega)
 unfold subS;generalize q*y=m at*;split
 ·refine⟨by simp only;omega,by simp,by simp only;omega,?_⟩
  simp only;omega
 ·refine⟨by simp only;omega,by simp,by simp only;omega,?_⟩
  simp only;omega
theorem L4{v:List Nat}(h:Ok v):v.headD 0<65536:=by
 cases v with
 |nil=>simp
 |cons a v=>exact h.head
theorem T3{v:List Nat}(h:Ok v):Ok v.tail:=by
 cases v with
 |nil=>exact Ok.nil
 |cons a v=>exact h.tail
theorem Kk(v:List Nat):val v=v.headD 0+65536*val v.tail:=by
 cases v with
 |nil=>rfl
 |cons a v=>rfl
theorem HI{q:Nat}(hq:q≤65536): ∀(u v:List Nat) (c b:Nat),Ok u→Ok v→v.length≤u.length→c<65536→b≤1→
  Ok (subL q u v c b).1∧(subL q u v c b).2.1≤1∧(subL q u v c b).2.2<65536∧
  (val u:Int) - (q*val v:Nat) - c - b=val (subL q u v c b).1 - (65536^u.length:Nat)*(((subL q u v c b).2.1:Int)+(subL q u v c b).2.2)
 |[],v,c,b,_,_,hl,hc,hb=>by
  have:v=[]:=jzv.1 (by simpa using hl)
  subst this;refine⟨Ok.nil,hb,hc,?_⟩;simp[subL,val];omega
 |x::u,v,c,b,hu,hv,hl,hc,hb=>by
  obtain⟨s1,s2,s3,s4⟩:=Uw (q:=q) (c:=c) (b:=b) hu.head (L4 hv) hq hc hb
  have hl2:v.tail.length≤u.length:=by simp at hl ⊢;omega
  obtain⟨r1,r2,r3,r4⟩:=HI hq u v.tail _ _ hu.tail (T3 hv) hl2 s3 s2
  have e:subL q (x::u) v c b=((subS q x (v.headD 0) c b).1::(subL q u v.tail (subS q x (v.headD 0) c b).2.2 (subS q x (v.headD 0) c b).2.1).1,(subL q u v.tail (subS q x (v.headD 0) c b).2.2 (subS q x (v.headD 0) c b).2.1).2):=rfl
  rw[e]
  simp only;generalize subS q x (v.headD 0) c b=s at*;generalize subL q u v.tail s.2.2 s.2.1=r at*;refine⟨Ok.cons s1 r1,r2,r3,?_⟩;have hv2:=Kk v;have hp:65536^(x::u).length=65536*65536^u.length:=by rw[List.length_cons,Nat.pow_succ,Nat.mul_comm]
  rw[hp,val,val]
  generalize 65536^u.length=p at*;generalize v.headD 0=y at*;have e1:q*val v=q*y+65536*(q*val v.tail):=by rw[hv2,Nat.mul_add,Nat.mul_left_comm]
  rw[e1]
  generalize q*val v.tail=m at*;generalize q*y=k at*;generalize val u=U at*;obtain⟨s1',s2',s3'⟩:=s;obtain⟨r1',r2',r3'⟩:=r;simp only at*;generalize val r1'=V at*;have e2:(65536*p:Nat)*((r2':Int)+r3')=65536*((p:Int)*((r2':Int)+r3')):=by rw[Int.natCast_mul,Int.mul_assoc];rfl
  rw[e2]
  generalize (p:Int)*((r2':Int)+r3')=z at*;omega
theorem GK{n:Int}(h: -2147483648≤n∧n≤2147483647):IntKind.i32.wrap n=n:=by
 have e:IntKind.i32.wrap n=if n%2^32≥2^(32 - 1) then n%2^32 - 2^32 else n%2^32:=by
  unfold IntKind.wrap;simp[IntKind.signed,IntKind.bits]
 rw[e]
 split<;>omega
theorem D8(n:Nat)(h:n<65536):IntKind.u16.wrap (n:Int)=n:=by
 have e:IntKind.u16.wrap (n:Int)=(n:Int)%2^16:=by
  unfold IntKind.wrap;simp[IntKind.signed,IntKind.bits]
 rw[e]
 omega
theorem Cd(l:List Nat)(k y:Nat)(h:k<l.length):splice k [D.int .u16 (y:Int)] (l.map u16)=(l.set k y).map u16:=by
 apply List.ext_getElem?
 intro j;rw[Cs _ _ _ (by simp;omega),Bi,Bi,List.getElem?_set]
 by_cases e:j=k
 ·subst e;simp[h,u16]
 ·rw[if_neg (by simp;omega),if_neg (by omega)]
theorem FP:IntKind.i32.min= -2147483648:=rfl
theorem FT:IntKind.i32.max=2147483647:=rfl
theorem Y1(q:Nat)(u v:List Nat)(hq:q≤65536)(hu:Ok u)(hv:Ok v)(hvl:v.length≤1000): ∃(W:Nat→List Nat) (B K:Nat→Nat),W 0=u∧B 0=0∧K 0=0∧W u.length=(subL q u v 0 0).1∧B u.length=(subL q u v 0 0).2.1∧
  (∀i,i≤u.length→(W i).length=u.length)∧(∀i (h:i<u.length),(W i)[i]? =some u[i])∧(∀i,i≤u.length→B i≤1)∧(∀i,i≤u.length→K i<65536)∧
  ∀i (h:i<u.length),(W i).set i (subS q u[i] (v.getD i 0) (K i) (B i)).1=W (i+1)∧B (i+1)=(subS q u[i] (v.getD i 0) (K i) (B i)).2.1∧K (i+1)=(subS q u[i] (v.getD i 0) (K i) (B i)).2.2:=by
 have hll: ∀i,i≤u.length→(subL q (u.take i) v 0 0).1.length=i:=fun i hi=>by
  rw[Fb,AP,A7 hi]
 have hsn: ∀i (h:i<u.length),subL q (u.take (i+1)) v 0 0=((subL q (u.take i) v 0 0).1++[(subS q u[i] (v.getD i 0) (subL q (u.take i) v 0 0).2.2 (subL q (u.take i) v 0 0).2.1).1],(subS q u[i] (v.getD i 0) (subL q (u.take i) v 0 0).2.2 (subL q (u.take i) v 0 0).2.1).2):=fun i h=>by
  have:=MV q u[i] (u.take i) v 0 0
  rw[←BX h,AP,A7 (by omega)]at this
  exact this
 have hbc: ∀i,i≤u.length→(subL q (u.take i) v 0 0).2.1≤1∧(subL q (u.take i) v 0 0).2.2<65536:=by
  intro i
  induction i with
  |zero=>intro _;simp[subL]
  |succ i ih=>
   intro h;have h1:=ih (by omega)
   rw[hsn i (by omega)]
   have hy:v.getD i 0<65536:=by
    rcases Nat.lt_or_ge i v.length with hi|hi
    ·rw[Ax,Am hi];exact hv _ (AD hi)
    ·rw[Ax,By hi];simp
   have:=Uw (hu _ (AD (show i<u.length by omega))) hy hq h1.2 h1.1
   exact⟨this.2.1,this.2.2.1⟩
 refine⟨fun i=>(subL q (u.take i) v 0 0).1++u.drop i,fun i=>(subL q (u.take i) v 0 0).2.1,fun i=>(subL q (u.take i) v 0 0).2.2,by simp[subL],by simp[subL],by simp[subL],by simp,by simp,fun i hi=> ?_,fun i h=> ?_,fun i hi=>(hbc i hi).1,fun i hi=>(hbc i hi).2,fun i h=>⟨?_,?_,?_⟩⟩
 ·rw[List.length_append,hll i hi,List.length_drop];omega
 ·rw[List.getElem?_append_right (by rw[hll i (by omega)];exact Az _),hll i (by omega),Nat.sub_self,List.getElem?_drop];simp[h]
 ·simp only;rw[hsn i h,List.set_append_right _ _ (by rw[hll i (by omega)];exact Az _),hll i (by omega),Nat.sub_self,List.append_assoc,AX h];rfl
 ·simp only[hsn i h]
 ·simp only[hsn i h]
theorem N7(i off:Nat)(cs:List Nat)(app:Bool)(u v:List Nat)(q:Nat)(R0:List (Nat×Blk))(hR: ∀j b,lk j R0=some b→j≠i∧ ∃sz cs app,b= .row sz cs app)(c:C)(hv:LQ R0 c (Ac v))
  (hu:Ok u) (hov:Ok v) (h0:u≠[]) (hul:u.length≤1000) (hvl:v.length≤1000) (hq:q≤65536) (hcut:AA off u.length cs=u) (hoff:off+u.length≤cs.length):
  DZ Tryz.prog 337 (.c (.sl i off u.length)::[(c,Ac v),(.d (.int .u32 q),.int .u32 q)].map fun w=> .c w.1) ((i,.row 1 (cs.map u16) app)::R0)
   ((i,.row 1 (splice (off*1) ((subL q u v 0 0).1.map u16) (cs.map u16)) app)::R0) (.u (.c (.d (.bool (decide (0<(subL q u v 0 0).2.1)))))):=by
 have hpos:0<u.length:=List.length_pos_iff.2 h0;refine NO (T:=tb) Ah mixed Tryz.func337 rfl (by decide) (Af rfl) rfl rfl ?_ ?_ ?_ ?_ ?_ ?_ ?_
 ·exact hpos
 ·simp;omega
 ·simp[Fb]
 ·intro x hx;obtain⟨y,_,rfl⟩:=jzk.1 hx;rfl
 ·exact hR
 ·intro w hw;simp only[jzn,C1,or_false]at hw;rcases hw with rfl|rfl
  ·exact hv
  ·exact .inl rfl
 ·have ec:AA (off*1) (u.length*1) (cs.map u16)=u.map u16:=by
   rw[Nat.mul_one,Nat.mul_one]
   unfold AA at hcut ⊢;rw[←List.map_drop,←List.map_take,hcut]
  rw[ec]
  unfold St.initS;obtain⟨W,B,K,hW0,hB0,hK0,hWn,hBn,hWl,hWg,hBl,hKl,hst⟩:=Y1 q u v hq hu hov hvl;rw[←hWn,←hBn];simp -implicitDefEqProofs[jJ,-natCast_add,-natCast_mul,-natCast_emod,-natCast_ediv,-natCast_pow,-List.map_set,BK];refine AF (fun i:Nat=>⟨[(13,vI .i64 i),(12,vI .i64 u.length),(8,vI .i32 (B i)),(7,vI .u32 (K i)),(0,vC (.sl 2000000 0 u.length)),(1,vC (.d (Ac v))),(2,vI .u32 q)],
   [(2000000,.row 1 ((W i).map u16) false)]⟩) (fun i=>i≤u.length) (fun i=>u.length - i) 0 (by simp[Aw,lk,St.le,vI,vC,hW0,hB0,hK0]) (by omega) ?_
  rintro k hk
  have hl:=hWl k hk;by_cases h:k<u.length
  ·have hx:u[k]<65536:=hu _ (AD h);have hg:=hWg k h;have hb:=hBl k hk;have hc:=hKl k hk;have hs:=hst k h;by_cases hv2:k<v.length
   ·have hy:v[k]<65536:=hov _ (AD hv2);have ey:v.getD k 0=v[k]:=by rw[Ax,Am hv2];rfl
    rw[ey]at hs
    have m1:q*v[k]≤65536*65535:=Nat.mul_le_mul hq (by omega)
    have m2:q*v[k]%4294967296=q*v[k]:=AI (by omega)
    have m3:(K k+q*v[k])%4294967296=K k+q*v[k]:=AI (by omega)
    have w1:IntKind.i32.wrap (u[k]:Int)=u[k]:=GK (by omega)
    generalize hT:(K k+q*v[k])%65536=t at*;have tl:t<65536:=by omega
    have w2:IntKind.i32.wrap (t:Int)=t:=GK (by omega)
    unfold subS at hs;rw[hT]at hs;by_cases hd:(u[k]:Int) - (t:Nat) - (B k:Nat)<0
    ·rw[if_pos hd]at hs
     have e:(u[k]:Int) - (t:Nat) - (B k:Nat)+65536=((u[k]+65536 - t - B k:Nat):Int):=by omega
     simp -implicitDefEqProofs[jJ,-natCast_add,-natCast_mul,-natCast_emod,-natCast_ediv,-natCast_pow,-List.map_set,h,hv2,m2,m3,hg,hT,u16,w1,w2,FP,FT,hd];refine⟨by omega,by omega,by omega,by omega,by omega,k+1,⟨⟨rfl,hs.2.1.symm,hs.2.2.symm⟩,?_⟩,by omega,by omega⟩
     rw[e,D8 _ (by omega),Cd _ _ _ (by omega)]
     exact congrArg (List.map u16) hs.1
    ·rw[if_neg hd]at hs
     have e:(u[k]:Int) - (t:Nat) - (B k:Nat)=((u[k] - t - B k:Nat):Int):=by omega
     simp -implicitDefEqProofs[jJ,-natCast_add,-natCast_mul,-natCast_emod,-natCast_ediv,-natCast_pow,-List.map_set,h,hv2,m2,m3,hg,hT,u16,w1,w2,FP,FT,hd];refine⟨by omega,by omega,by omega,by omega,k+1,⟨⟨rfl,hs.2.1.symm,hs.2.2.symm⟩,?_⟩,by omega,by omega⟩
     rw[e,D8 _ (by omega),Cd _ _ _ (by omega)]
     exact congrArg (List.map u16) hs.1
   ·have ey:v.getD k 0=0:=by rw[Ax,By (by omega)];rfl
    rw[ey]at hs
    have w1:IntKind.i32.wrap (u[k]:Int)=u[k]:=GK (by omega)
    generalize hT:(K k)%65536=t at*;have tl:t<65536:=by omega
    have w2:IntKind.i32.wrap (t:Int)=t:=GK (by omega)
    unfold subS at hs;simp only[Nat.mul_zero,Nat.add_zero,hT]at hs;by_cases hd:(u[k]:Int) - (t:Nat) - (B k:Nat)<0
    ·rw[if_pos hd]at hs
     have e:(u[k]:Int) - (t:Nat) - (B k:Nat)+65536=((u[k]+65536 - t - B k:Nat):Int):=by omega
     simp -implicitDefEqProofs[jJ,-natCast_add,-natCast_mul,-natCast_emod,-natCast_ediv,-natCast_pow,-List.map_set,h,hv2,hg,hT,u16,w1,w2,FP,FT,hd];refine⟨by omega,by omega,by omega,by omega,by omega,k+1,⟨⟨rfl,hs.2.1.symm,hs.2.2.symm⟩,?_⟩,by omega,by omega⟩
     rw[e,D8 _ (by omega),Cd _ _ _ (by omega)]
     exact congrArg (List.map u16) hs.1
    ·rw[if_neg hd]at hs
     have e:(u[k]:Int) - (t:Nat) - (B k:Nat)=((u[k] - t - B k:Nat):Int):=by omega
     simp -implicitDefEqProofs[jJ,-natCast_add,-natCast_mul,-natCast_emod,-natCast_ediv,-natCast_pow,-List.map_set,h,hv2,hg,hT,u16,w1,w2,FP,FT,hd];refine⟨by omega,by omega,by omega,by omega,k+1,⟨⟨rfl,hs.2.1.symm,hs.2.2.symm⟩,?_⟩,by omega,by omega⟩
     rw[e,D8 _ (by omega),Cd _ _ _ (by omega)]
     exact congrArg (List.map u16) hs.1
  ·have hk2:k=u.length:=by omega
   subst hk2;simp -implicitDefEqProofs[jJ,-natCast_add,-natCast_mul,-natCast_emod,-natCast_ediv,-natCast_pow,-List.map_set,h];exact⟨.inl rfl,by simp[lk,BK,vC],by simp[lk,BK],vC (.d (.bool _)),rfl,.inr (.inl ⟨_,rfl,rfl,rfl⟩)⟩
def addS(x y c:Nat):Nat×Nat:=((c+x+y)%65536,(c+x+y)/65536)
def addL:List Nat→List Nat→Nat→List Nat×Nat
 |[],_,c=>([],c)
 |x::u,v,c=>
  let s:=addS x (v.headD 0) c
  let r:=addL u v.tail s.2
  (s.1::r.1,r.2)
theorem Sk(x:Nat): ∀(u v:List Nat) (c:Nat),addL (u++[x]) v c=((addL u v c).1++[(addS x (v.getD u.length 0) (addL u v c).2).1],(addS x (v.getD u.length 0) (addL u v c).2).2)
 |[],v,c=>by
  cases v<;>rfl
 |y::u,v,c=>by
  have ih:=Sk x u v.tail (addS y (v.headD 0) c).2;have e:v.tail.getD u.length 0=v.getD (y::u).length 0:=by cases v<;>simp
  rw[e]at ih
  show(let s:=addS y (v.headD 0) c;let r:=addL (u++[x]) v.tail s.2;(s.1::r.1,r.2))=_
  simp only[ih];rfl
theorem HF: ∀(u v:List Nat) (c:Nat),(addL u v c).1.length=u.length
 |[],_,_=>rfl
 |x::u,v,c=>by
  show((addS x (v.headD 0) c).1::(addL u v.tail (addS x (v.headD 0) c).2).1).length=_
  rw[List.length_cons,HF u v.tail,List.length_cons]
theorem Ty: ∀(u v:List Nat) (c:Nat),Ok u→Ok v→v.length≤u.length→c≤1→
  Ok (addL u v c).1∧(addL u v c).2≤1∧val u+val v+c=val (addL u v c).1+65536^u.length*(addL u v c).2
 |[],v,c,_,_,hl,hc=>by
  have:v=[]:=jzv.1 (by simpa using hl)
  subst this;refine⟨Ok.nil,hc,?_⟩;simp[addL,val]
 |x::u,v,c,hu,hv,hl,hc=>by
  have hx:=hu.head;have hy:=L4 hv;have hl2:v.tail.length≤u.length:=by simp at hl ⊢;omega
  have hs:(addS x (v.headD 0) c).1<65536∧(addS x (v.headD 0) c).2≤1∧x+v.headD 0+c=(addS x (v.headD 0) c).1+65536*(addS x (v.headD 0) c).2:=by
   unfold addS;simp only;omega
  obtain⟨r1,r2,r3⟩:=Ty u v.tail _ hu.tail (T3 hv) hl2 hs.2.1
  have e:addL (x::u) v c=((addS x (v.headD 0) c).1::(addL u v.tail (addS x (v.headD 0) c).2).1,(addL u v.tail (addS x (v.headD 0) c).2).2):=rfl
  rw[e]
  simp only;generalize addS x (v.headD 0) c=s at*;generalize addL u v.tail s.2=r at*;refine⟨Ok.cons hs.1 r1,r2,?_⟩;have hv2:=Kk v;have hp:65536^(x::u).length=65536*65536^u.length:=by rw[List.length_cons,Nat.pow_succ,Nat.mul_comm]
  rw[hp,val,val,Nat.mul_assoc]
  generalize 65536^u.length*r.2=z at*;omega
theorem WF(u v:List Nat)(hu:Ok u)(hv:Ok v): ∃(W:Nat→List Nat) (K:Nat→Nat),W 0=u∧K 0=0∧W u.length=(addL u v 0).1∧
  (∀i,i≤u.length→(W i).length=u.length)∧(∀i (h:i<u.length),(W i)[i]? =some u[i])∧(∀i,i≤u.length→K i≤1)∧
  ∀i (h:i<u.length),(W i).set i (addS u[i] (v.getD i 0) (K i)).1=W (i+1)∧K (i+1)=(addS u[i] (v.getD i 0) (K i)).2:=by
 have hll: ∀i,i≤u.length→(addL (u.take i) v 0).1.length=i:=fun i hi=>by
  rw[HF,AP,A7 hi]
 have hsn: ∀i (h:i<u.length),addL (u.take (i+1)) v 0=((addL (u.take i) v 0).1++[(addS u[i] (v.getD i 0) (addL (u.take i) v 0).2).1],(addS u[i] (v.getD i 0) (addL (u.take i) v 0).2).2):=fun i h=>by
  have:=Sk u[i] (u.take i) v 0
  rw[←BX h,AP,A7 (by omega)]at this
  exact this
 have hbc: ∀i,i≤u.length→(addL (u.take i) v 0).2≤1:=by
  intro i
  induction i with
  |zero=>intro _;simp[addL]
  |succ i ih=>
   intro h;have h1:=ih (by omega)
   rw[hsn i (by omega)]
   have hy:v.getD i 0<65536:=by
    rcases Nat.lt_or_ge i v.length with hi|hi
    ·rw[Ax,Am hi];exact hv _ (AD hi)
    ·rw[Ax,By hi];simp
   have hx:=hu _ (AD (show i<u.length by omega))
   unfold addS;simp only;omega
 refine⟨fun i=>(addL (u.take i) v 0).1++u.drop i,fun i=>(addL (u.take i) v 0).2,by simp[addL],by simp[addL],by simp,fun i hi=> ?_,fun i h=> ?_,fun i hi=>hbc i hi,fun i h=>⟨?_,?_⟩⟩
 ·rw[List.length_append,hll i hi,List.length_drop];omega
 ·rw[List.getElem?_append_right (by rw[hll i (by omega)];exact Az _),hll i (by omega),Nat.sub_self,List.getElem?_drop];simp[h]
 ·simp only;rw[hsn i h,List.set_append_right _ _ (by rw[hll i (by omega)];exact Az _),hll i (by omega),Nat.sub_self,List.append_assoc,AX h];rfl
 ·simp only[hsn i h]
theorem T9(i off:Nat)(cs:List Nat)(app:Bool)(u v:List Nat)(R0:List (Nat×Blk))(hR: ∀j b,lk j R0=some b→j≠i∧ ∃sz cs app,b= .row sz cs app)(c:C)(hv:LQ R0 c (Ac v))
  (hu:Ok u) (hov:Ok v) (h0:u≠[]) (hul:u.length≤1000) (hvl:v.length≤1000) (hcut:AA off u.length cs=u) (hoff:off+u.length≤cs.length):
  DZ Tryz.prog 338 (.c (.sl i off u.length)::[(c,Ac v)].map fun w=> .c w.1) ((i,.row 1 (cs.map u16) app)::R0)
   ((i,.row 1 (splice (off*1) ((addL u v 0).1.map u16) (cs.map u16)) app)::R0) (.tup []):=by
 have hpos:0<u.length:=List.length_pos_iff.2 h0;refine NO (T:=tb) Ah mixed Tryz.func338 rfl (by decide) (Af rfl) rfl rfl ?_ ?_ ?_ ?_ ?_ ?_ ?_
 ·exact hpos
 ·simp;omega
 ·simp[HF]
 ·intro x hx;obtain⟨y,_,rfl⟩:=jzk.1 hx;rfl
 ·exact hR
 ·intro w hw;simp only[jzn,C1,or_false]at hw;rcases hw with rfl
  exact hv
 ·have ec:AA (off*1) (u.length*1) (cs.map u16)=u.map u16:=by
   rw[Nat.mul_one,Nat.mul_one]
   unfold AA at hcut ⊢;rw[←List.map_drop,←List.map_take,hcut]
  rw[ec]
  unfold St.initS;obtain⟨W,K,hW0,hK0,hWn,hWl,hWg,hKl,hst⟩:=WF u v hu hov;rw[←hWn];simp -implicitDefEqProofs[jJ,-natCast_add,-natCast_mul,-natCast_emod,-natCast_ediv,-natCast_pow,-List.map_set,BK];refine AF (fun i:Nat=>⟨[(8,vI .i64 i),(7,vI .i64 u.length),(4,vI .u32 (K i)),(0,vC (.sl 2000000 0 u.length)),(1,vC (.d (Ac v)))],
   [(2000000,.row 1 ((W i).map u16) false)]⟩) (fun i=>i≤u.length) (fun i=>u.length - i) 0 (by simp[Aw,lk,St.le,vI,vC,hW0,hK0]) (by omega) ?_
  rintro k hk
  have hl:=hWl k hk;by_cases h:k<u.length
  ·have hx:u[k]<65536:=hu _ (AD h);have hg:=hWg k h;have hc:=hKl k hk;have hs:=hst k h;unfold addS at hs;by_cases hv2:k<v.length
   ·have hy:v[k]<65536:=hov _ (AD hv2);have ey:v.getD k 0=v[k]:=by rw[Ax,Am hv2];rfl
    rw[ey]at hs
    have m2:(K k+u[k])%4294967296=K k+u[k]:=AI (by omega)
    have m3:(K k+u[k]+v[k])%4294967296=K k+u[k]+v[k]:=AI (by omega)
    simp -implicitDefEqProofs[jJ,-natCast_add,-natCast_mul,-natCast_emod,-natCast_ediv,-natCast_pow,-List.map_set,h,hv2,hg,m2,m3,u16];refine⟨by omega,by omega,k+1,⟨⟨rfl,hs.2.symm⟩,?_⟩,by omega,by omega⟩
    rw[Cd _ _ _ (by omega)]
    exact congrArg (List.map u16) hs.1
   ·have ey:v.getD k 0=0:=by rw[Ax,By (by omega)];rfl
    rw[ey]at hs
    have m2:(K k+u[k])%4294967296=K k+u[k]:=AI (by omega)
    simp only[Nat.add_zero]at hs;simp -implicitDefEqProofs[jJ,-natCast_add,-natCast_mul,-natCast_emod,-natCast_ediv,-natCast_pow,-List.map_set,h,hv2,hg,m2,u16];refine⟨by omega,by omega,k+1,⟨⟨rfl,hs.2.symm⟩,?_⟩,by omega,by omega⟩
    rw[Cd _ _ _ (by omega)]
    exact congrArg (List.map u16) hs.1
  ·have hk2:k=u.length:=by omega
   subst hk2;simp -implicitDefEqProofs[jJ,-natCast_add,-natCast_mul,-natCast_emod,-natCast_ediv,-natCast_pow,-List.map_set,h];exact⟨.inr rfl,by simp[lk,BK,vC],by simp[lk,BK],.tup [],rfl,.inl ⟨rfl,rfl⟩⟩
end Go.Va
