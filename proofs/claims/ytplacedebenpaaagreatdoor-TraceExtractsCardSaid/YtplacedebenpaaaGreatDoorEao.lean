/- a part of the proof -/
import Derived.Test.YtplacedebenpaaaGreatDoorEan
import Derived.Test.YtplacedebenpaaaGreatDoorEzL
set_option linter.all false
set_option maxHeartbeats 4000000
set_option maxRecDepth 10000
namespace Go.Va
open _root_.List renaming map_set → aD, set_append_right → aH, getElem?_append_right → aI, length_cons → aM, length_take → aN, take_succ_eq_append_getElem → aO, replicate → aS, replicate_succ → a6, append_assoc → a7, append_inj → bB, map_drop → bC, map_take → bD, map → bG
open _root_.Nat renaming mul_comm → aG, sub_self → aJ, div_lt_iff_lt_mul → aL, min_eq_left → aP, mul_le_mul → aR, mul_one → aT, mul_lt_mul_of_pos_right → aU, add_zero → aW, pow_pos → aX, mul_mod_mul_left → aY, mul_assoc → aZ, mod_lt → a8, div_add_mod → bA, lt_or_ge → bE, add_comm → bF, or_comm → bH, add_mul → bJ, pow_add → bK, mul_add → bL
open Int renaming natCast_add → qA, natCast_mul → qB, natCast_emod → qC, natCast_ediv → qD, natCast_pow → qE
open Go.Proofs Go.Proofs.Tryz
theorem Hn[DrC]{P:Program}{dst:Option Nat}{k:St}{K:St->Prop}{g:FuncId}{caps:List D}{l:List U}{i sz f:Nat}{cs cs':List D}{app a:Bool}{r:R}
  (o:Fw P g (l++caps.map λd=> .c (.d d)) [(i,.row sz cs app)] [(i,.row f cs' a)] r) (q: ∀u∈l,DB [i] u.all) (m:lk i k.h=some (.row sz cs app)) (p:K (k.backW dst [i] [(i,.row f cs' a)] r)):Qh P dst k K g caps l:=by
 refine⟨[i],r,_,_,o,q,λj b h=> ?_,λj t=> ?_,p⟩
 ·simp only[lk]at h;split at h
  ·rename_i e;cases h;subst e;exact⟨O1,m,trivial⟩
  ·cases h
 simp_all
def subS(q x y c b:Nat):Nat×Nat×Nat:=
 if (x:Int) - ((c+q*y)%65536:Nat) - b<0 then (x+65536 - (c+q*y)%65536 - b,1,(c+q*y)/65536) else (x - (c+q*y)%65536 - b,0,(c+q*y)/65536)
def subL(q:Nat):List Nat->List Nat->Nat->Nat->List Nat×Nat×Nat
 |[],_,c,b=>([],b,c)
 |x::u,v,c,b=>
  let s:=subS q x (v.headD 0) c b;let r:=subL q u v.tail s.2.2 s.2.1
  (s.1::r.1,r.2)
theorem MU(q x:Nat): ∀(u v:List Nat) (c b:Nat),subL q (u++[x]) v c b=((subL q u v c b).1++[(subS q x (v.getD u.length 0) (subL q u v c b).2.2 (subL q u v c b).2.1).1],(subS q x (v.getD u.length 0) (subL q u v c b).2.2 (subL q u v c b).2.1).2)
 |[],v,c,b=>by
  cases v<;>rfl
 |y::u,v,c,b=>by
  have a:=MU q x u v.tail (subS q y (v.headD 0) c b).2.2 (subS q y (v.headD 0) c b).2.1;have e:v.tail.getD u.length 0=v.getD (y::u).length 0:=by cases v<;>simp
  rw[e]at a;show(let s:=subS q y (v.headD 0) c b;let r:=subL q (u++[x]) v.tail s.2.2 s.2.1;(s.1::r.1,r.2))=_;simp only[a];rfl
theorem EE(q:Nat): ∀(u v:List Nat) (c b:Nat),(subL q u v c b).1.length=u.length
 |[],_,_,_=>rfl
 |x::u,v,c,b=>by
  show((subS q x (v.headD 0) c b).1::(subL q u v.tail (subS q x (v.headD 0) c b).2.2 (subS q x (v.headD 0) c b).2.1).1).length=_;rw[aM,EE q u v.tail,aM]
theorem Qd{q x y c b:Nat}(h:x<65536)(i:y<65536)(a:q<=65536)(f:c<65536)(e:b<=1):
  (subS q x y c b).1<65536/\(subS q x y c b).2.1<=1/\(subS q x y c b).2.2<65536/\(x:Int) - (q*y:Nat) - c - b=(subS q x y c b).1 - 65536*(((subS q x y c b).2.1:Int)+(subS q x y c b).2.2):=by
 have g:q*y<=65536*65535:=aR a O;grind[subS]
theorem LJ{v:List Nat}(h:Ok v):v.headD 0<65536:=by
 cases v with
 |nil=>simp
 |cons a v=>exact h.head
theorem Q4{v:List Nat}(h:Ok v):Ok v.tail:=by
 cases v with
 |nil=>exact Ok.nil
 |cons a v=>exact h.tail
theorem J7(v:List Nat):val v=v.headD 0+65536*val v.tail:=by
 cases v with
 |nil=>rfl
 |cons a v=>rfl
theorem GO{q:Nat}(h:q<=65536): ∀(u v:List Nat) (c b:Nat),Ok u->Ok v->v.length<=u.length->c<65536->b<=1->
  Ok (subL q u v c b).1/\(subL q u v c b).2.1<=1/\(subL q u v c b).2.2<65536/\
  (val u:Int) - (q*val v:Nat) - c - b=val (subL q u v c b).1 - (65536^u.length:Nat)*(((subL q u v c b).2.1:Int)+(subL q u v c b).2.2)
 |[],v,c,b,_,_,k,g,f=>by
  have:v=[]:=(by simp_all)
  grind[Ok.nil,subL,val]
 |x::u,v,c,b,i,j,k,g,f=>by
  obtain⟨z,E,F,I⟩:=Qd (q:=q) (c:=c) (b:=b) i.head (LJ j) h g f;have a:v.tail.length<=u.length:=O3;obtain⟨o,t,w,H⟩:=GO h u v.tail _ _ i.tail (Q4 j) a F E;have e:subL q (x::u) v c b=((subS q x (v.headD 0) c b).1::(subL q u v.tail (subS q x (v.headD 0) c b).2.2 (subS q x (v.headD 0) c b).2.1).1,(subL q u v.tail (subS q x (v.headD 0) c b).2.2 (subS q x (v.headD 0) c b).2.1).2):=rfl;rw[e];simp only;generalize subS q x (v.headD 0) c b=s at*;generalize subL q u v.tail s.2.2 s.2.1=r at*;refine⟨Ok.cons z o,t,w,?_⟩;have m:=J7 v;have l:65536^(x::u).length=65536*65536^u.length:=O3;rw[l,val,val];generalize 65536^u.length=p at*;generalize v.headD 0=y at*;have G:q*val v=q*y+65536*(q*val v.tail):=O3;grind
theorem GA{n:Int}(h: -2147483648<=n/\n<=2147483647):IntKind.i32.wrap n=n:=by
 grind[IntKind.wrap,IntKind.signed,IntKind.bits]
theorem DV(n:Nat)(h:n<65536):IntKind.u16.wrap (n:Int)=n:=by
 grind[IntKind.wrap,IntKind.signed,IntKind.bits]
theorem Ck(l:List Nat)(k y:Nat)(h:k<l.length):splice k [D.int .u16 (y:Int)] (l.map u16)=(l.set k y).map u16:=by
 simp_all
theorem Fa:IntKind.i32.min= -2147483648:=rfl
theorem Fh:IntKind.i32.max=2147483647:=rfl
theorem jbY(q:Nat)(u v:List Nat)(g:q<=65536)(j:Ok u)(k:Ok v)(l:v.length<=1000): ∃(W:Nat->List Nat) (B K:Nat->Nat),W 0=u/\B 0=0/\K 0=0/\W u.length=(subL q u v 0 0).1/\B u.length=(subL q u v 0 0).2.1/\
  (∀i,i<=u.length->(W i).length=u.length)/\(∀i (h:i<u.length),(W i)[i]? =some u[i])/\(∀i,i<=u.length->B i<=1)/\(∀i,i<=u.length->K i<65536)/\
  ∀i (h:i<u.length),(W i).set i (subS q u[i] (v.getD i 0) (K i) (B i)).1=W (i+1)/\B (i+1)=(subS q u[i] (v.getD i 0) (K i) (B i)).2.1/\K (i+1)=(subS q u[i] (v.getD i 0) (K i) (B i)).2.2:=by
 have b: ∀i,i<=u.length->(subL q (u.take i) v 0 0).1.length=i:=(by grind[EE,aN,aP])
 have a: ∀i (h:i<u.length),subL q (u.take (i+1)) v 0 0=((subL q (u.take i) v 0 0).1++[(subS q u[i] (v.getD i 0) (subL q (u.take i) v 0 0).2.2 (subL q (u.take i) v 0 0).2.1).1],(subS q u[i] (v.getD i 0) (subL q (u.take i) v 0 0).2.2 (subL q (u.take i) v 0 0).2.1).2):=(by grind[MU,aO,aN,aP])
 have f: ∀i,i<=u.length->(subL q (u.take i) v 0 0).2.1<=1/\(subL q (u.take i) v 0 0).2.2<65536:=by
  intro i
  induction i with
  |zero=>grind[subL]
  |succ i o=>
   intro h;have e:=o O;rw[a i O];have m:v.getD i 0<65536:=by
    rcases bE i v.length with hi|hi
    ·rw[AL,AD hi];exact k _ O1
    grind
   have:=Qd (j _ (AZ (show i<u.length by omega))) m g e.2 e.1;grind
 refine⟨λi=>(subL q (u.take i) v 0 0).1++u.drop i,λi=>(subL q (u.take i) v 0 0).2.1,λi=>(subL q (u.take i) v 0 0).2.2,by simp[subL],by simp[subL],by simp[subL],O1,O1,λi hi=> ?_,λi h=> ?_,O3,O3,λi h=>⟨?_,?_,?_⟩⟩
 ·grind
 ·rw[aI O3,b i O,aJ,List.getElem?_drop];simp[h]
 ·simp only;rw[a i h,aH _ _ O3,b i O,aJ,a7,BQ h];rfl
 ·simp only[a i h]
 grind
theorem OB[DrC](i off:Nat)(cs:List Nat)(app:Bool)(u v:List Nat)(q:Nat)(z:List (Nat×Blk))(hR: ∀j b,lk j z=some b->j≠i/\ ∃sz cs app,b= .row sz cs app)(c:C)(hv:NO z c (Ad v))
  (hu:Ok u) (m:Ok v) (h0:u≠[]) (hul:u.length<=1000) (S:v.length<=1000) (Z:q<=65536) (X:cut off u.length cs=u) (Y:off+u.length<=cs.length):
  Fw prog 388 (.c (.sl i off u.length)::[(c,Ad v),(.d (.int .u32 q),.int .u32 q)].map λw=> .c w.1) ((i,.row 1 (cs.map u16) app)::z)
   ((i,.row 1 (splice (off*1) ((subL q u v 0 0).1.map u16) (cs.map u16)) app)::z) (.u (.c (.d (.bool (decide (0<(subL q u v 0 0).2.1)))))):=by
 have o:0<u.length:=O3;refine RY (T:=tb) Ak mixed func388 rfl O2 (Al rfl) rfl rfl ?_ ?_ ?_ ?_ ?_ ?_ ?_
 ·exact o
 ·simp;omega
 ·simp[EE]
 ·intro x hx;obtain⟨y,_,rfl⟩:=jzk.1 hx;rfl
 ·exact hR
 ·intro w hw;simp only[jzn,E8,or_false]at hw;rcases hw with rfl|rfl
  ·exact hv
  ·exact .inl rfl
 ·have ec:cut (off*1) (u.length*1) (cs.map u16)=u.map u16:=by
   rw[aT,aT];grind[cut,bC,bD]
  rw[ec];unfold St.initS;obtain⟨W,B,K,hW0,hB0,hK0,M,H,L,J,G,I,Q⟩:=jbY q u v Z hu m S;rw[<-M,<-H];simp -implicitDefEqProofs[jJ,-qA,-qB,-qC,-qD,-qE,-aD,BK];refine AV (λi:Nat=>⟨[(13,vI .i64 i),(12,vI .i64 u.length),(8,vI .i32 (B i)),(7,vI .u32 (K i)),(0,vC (.sl 2000000 0 u.length)),(1,vC (.d (Ad v))),(2,vI .u32 q)],
   [(2000000,.row 1 ((W i).map u16) false)]⟩) (λi=>i<=u.length) (λi=>u.length - i) 0 (by simp_all) O ?_
  rintro k N;have hl:=L k N;by_cases h:k<u.length
  ·have hx:u[k]<65536:=hu _ O1;have E:=J k h;have hb:=G k N;have hc:=I k N;have a:=Q k h;by_cases g:k<v.length
   ·have hy:v[k]<65536:=m _ O1;have F:v.getD k 0=v[k]:=O3;rw[F]at a;have m1:q*v[k]<=65536*65535:=aR Z O;have m2:q*v[k]%4294967296=q*v[k]:=O;have m3:(K k+q*v[k])%4294967296=K k+q*v[k]:=O;have p:IntKind.i32.wrap (u[k]:Int)=u[k]:=GA O;generalize l:(K k+q*v[k])%65536=t at*;have tl:t<65536:=O;have r:IntKind.i32.wrap (t:Int)=t:=GA O;unfold subS at a;rw[l]at a;by_cases f:(u[k]:Int) - (t:Nat) - (B k:Nat)<0
    ·rw[if_pos f]at a;have e:(u[k]:Int) - (t:Nat) - (B k:Nat)+65536=((u[k]+65536 - t - B k:Nat):Int):=O;simp -implicitDefEqProofs[jJ,-qA,-qB,-qC,-qD,-qE,-aD,h,g,m2,m3,E,l,u16,p,r,Fa,Fh,f];refine⟨O,O,O,O,O,k+1,⟨O3,?_⟩,O,O⟩;rw[e,DV _ O,Ck _ _ _ O];grind
    ·rw[if_neg f]at a;have e:(u[k]:Int) - (t:Nat) - (B k:Nat)=((u[k] - t - B k:Nat):Int):=O;simp -implicitDefEqProofs[jJ,-qA,-qB,-qC,-qD,-qE,-aD,h,g,m2,m3,E,l,u16,p,r,Fa,Fh,f];refine⟨O,O,O,O,k+1,⟨O3,?_⟩,O,O⟩;rw[e,DV _ O,Ck _ _ _ O];grind
   ·have F:v.getD k 0=0:=O3;rw[F]at a;have p:IntKind.i32.wrap (u[k]:Int)=u[k]:=GA O;generalize l:(K k)%65536=t at*;have tl:t<65536:=O;have r:IntKind.i32.wrap (t:Int)=t:=GA O;unfold subS at a;simp only[Nat.mul_zero,aW,l]at a;by_cases f:(u[k]:Int) - (t:Nat) - (B k:Nat)<0
    ·rw[if_pos f]at a;have e:(u[k]:Int) - (t:Nat) - (B k:Nat)+65536=((u[k]+65536 - t - B k:Nat):Int):=O;simp -implicitDefEqProofs[jJ,-qA,-qB,-qC,-qD,-qE,-aD,h,g,E,l,u16,p,r,Fa,Fh,f];refine⟨O,O,O,O,O,k+1,⟨O3,?_⟩,O,O⟩;rw[e,DV _ O,Ck _ _ _ O];grind
    ·rw[if_neg f]at a;have e:(u[k]:Int) - (t:Nat) - (B k:Nat)=((u[k] - t - B k:Nat):Int):=O;simp -implicitDefEqProofs[jJ,-qA,-qB,-qC,-qD,-qE,-aD,h,g,E,l,u16,p,r,Fa,Fh,f];refine⟨O,O,O,O,k+1,⟨O3,?_⟩,O,O⟩;rw[e,DV _ O,Ck _ _ _ O];grind
  ·have P:k=u.length:=O;subst P;refine rC ?_;exact⟨.inl rfl,by simp[lk,BK,vC],by simp[lk,BK],vC (.d (.bool _)),rfl,.inr O1⟩
def AK(x y c:Nat):Nat×Nat:=((c+x+y)%65536,(c+x+y)/65536)
def Ap:List Nat->List Nat->Nat->List Nat×Nat
 |[],_,c=>([],c)
 |x::u,v,c=>
  let s:=AK x (v.headD 0) c;let r:=Ap u v.tail s.2
  (s.1::r.1,r.2)
theorem Qb(x:Nat): ∀(u v:List Nat) (c:Nat),Ap (u++[x]) v c=((Ap u v c).1++[(AK x (v.getD u.length 0) (Ap u v c).2).1],(AK x (v.getD u.length 0) (Ap u v c).2).2)
 |[],v,c=>by
  cases v<;>rfl
 |y::u,v,c=>by
  have a:=Qb x u v.tail (AK y (v.headD 0) c).2;have e:v.tail.getD u.length 0=v.getD (y::u).length 0:=by cases v<;>simp
  rw[e]at a;show(let s:=AK y (v.headD 0) c;let r:=Ap (u++[x]) v.tail s.2;(s.1::r.1,r.2))=_;simp only[a];rfl
theorem G5: ∀(u v:List Nat) (c:Nat),(Ap u v c).1.length=u.length
 |[],_,_=>rfl
 |x::u,v,c=>by
  show((AK x (v.headD 0) c).1::(Ap u v.tail (AK x (v.headD 0) c).2).1).length=_;rw[aM,G5 u v.tail,aM]
theorem UR: ∀(u v:List Nat) (c:Nat),Ok u->Ok v->v.length<=u.length->c<=1->
  Ok (Ap u v c).1/\(Ap u v c).2<=1/\val u+val v+c=val (Ap u v c).1+65536^u.length*(Ap u v c).2
 |[],v,c,_,_,h,g=>by
  simp_all[Ok.nil,Ap,val]
 |x::u,v,c,b,f,h,g=>by
  have j:=b.head;have k:=LJ f;have a:v.tail.length<=u.length:=O3;have i:(AK x (v.headD 0) c).1<65536/\(AK x (v.headD 0) c).2<=1/\x+v.headD 0+c=(AK x (v.headD 0) c).1+65536*(AK x (v.headD 0) c).2:=by
   grind[AK]
  obtain⟨l,m,o⟩:=UR u v.tail _ b.tail (Q4 f) a i.2.1;have e:Ap (x::u) v c=((AK x (v.headD 0) c).1::(Ap u v.tail (AK x (v.headD 0) c).2).1,(Ap u v.tail (AK x (v.headD 0) c).2).2):=rfl;grind[AK,Ap,Ok.cons,J7,aM,Nat.pow_succ,aG,val,aZ]
theorem WC(u v:List Nat)(f:Ok u)(g:Ok v): ∃(W:Nat->List Nat) (K:Nat->Nat),W 0=u/\K 0=0/\W u.length=(Ap u v 0).1/\
  (∀i,i<=u.length->(W i).length=u.length)/\(∀i (h:i<u.length),(W i)[i]? =some u[i])/\(∀i,i<=u.length->K i<=1)/\
  ∀i (h:i<u.length),(W i).set i (AK u[i] (v.getD i 0) (K i)).1=W (i+1)/\K (i+1)=(AK u[i] (v.getD i 0) (K i)).2:=by
 have b: ∀i,i<=u.length->(Ap (u.take i) v 0).1.length=i:=(by grind[G5,aN,aP])
 have a: ∀i (h:i<u.length),Ap (u.take (i+1)) v 0=((Ap (u.take i) v 0).1++[(AK u[i] (v.getD i 0) (Ap (u.take i) v 0).2).1],(AK u[i] (v.getD i 0) (Ap (u.take i) v 0).2).2):=(by grind[Qb,aO,aN,aP])
 have e: ∀i,i<=u.length->(Ap (u.take i) v 0).2<=1:=by
  intro i
  induction i with
  |zero=>grind[Ap]
  |succ i j=>
   intro h;have k:=j O;rw[a i O];have m:v.getD i 0<65536:=by
    rcases bE i v.length with hi|hi
    ·rw[AL,AD hi];exact g _ O1
    grind
   have l:=f _ (AZ (show i<u.length by omega));grind[AK]
 refine⟨λi=>(Ap (u.take i) v 0).1++u.drop i,λi=>(Ap (u.take i) v 0).2,by simp[Ap],by simp[Ap],O1,λi hi=> ?_,λi h=> ?_,O,λi h=>⟨?_,?_⟩⟩
 ·grind
 ·grind
 ·simp only;rw[a i h,aH _ _ O3,b i O,aJ,a7,BQ h];rfl
 grind
theorem Rk[DrC](i off:Nat)(cs:List Nat)(app:Bool)(u v:List Nat)(g:List (Nat×Blk))(P: ∀j b,lk j g=some b->j≠i/\ ∃sz cs app,b= .row sz cs app)(c:C)(hv:NO g c (Ad v))
  (J:Ok u) (a:Ok v) (Z:u≠[]) (S:u.length<=1000) (X:v.length<=1000) (F:cut off u.length cs=u) (I:off+u.length<=cs.length):
  Fw prog 389 (.c (.sl i off u.length)::[(c,Ad v)].map λw=> .c w.1) ((i,.row 1 (cs.map u16) app)::g)
   ((i,.row 1 (splice (off*1) ((Ap u v 0).1.map u16) (cs.map u16)) app)::g) (.tup []):=by
 have e:0<u.length:=O3;refine RY (T:=tb) Ak mixed func389 rfl O2 (Al rfl) rfl rfl ?_ ?_ ?_ ?_ ?_ ?_ ?_
 ·exact e
 ·simp;omega
 ·simp[G5]
 ·intro x L;obtain⟨y,_,rfl⟩:=jzk.1 L;rfl
 ·exact P
 ·grind
 ·have M:cut (off*1) (u.length*1) (cs.map u16)=u.map u16:=by
   rw[aT,aT];grind[cut,bC,bD]
  rw[M];unfold St.initS;obtain⟨W,K,Q,N,r,q,p,o,z⟩:=WC u v J a;rw[<-r];simp -implicitDefEqProofs[jJ,-qA,-qB,-qC,-qD,-qE,-aD,BK];refine AV (λi:Nat=>⟨[(8,vI .i64 i),(7,vI .i64 u.length),(4,vI .u32 (K i)),(0,vC (.sl 2000000 0 u.length)),(1,vC (.d (Ad v)))],
   [(2000000,.row 1 ((W i).map u16) false)]⟩) (λi=>i<=u.length) (λi=>u.length - i) 0 (by simp_all) O ?_
  rintro k H;have hl:=q k H;by_cases h:k<u.length
  ·have L:u[k]<65536:=J _ O1;have G:=p k h;have hc:=o k H;have l:=z k h;unfold AK at l;by_cases f:k<v.length
   ·have hy:v[k]<65536:=a _ O1;have m:v.getD k 0=v[k]:=O3;rw[m]at l;have E:(K k+u[k])%4294967296=K k+u[k]:=O;have Y:(K k+u[k]+v[k])%4294967296=K k+u[k]+v[k]:=O;simp -implicitDefEqProofs[jJ,-qA,-qB,-qC,-qD,-qE,-aD,h,f,G,E,Y,u16];refine⟨O,O,k+1,⟨O,?_⟩,O,O⟩;rw[Ck _ _ _ O];grind
   ·have m:v.getD k 0=0:=O3;rw[m]at l;have E:(K k+u[k])%4294967296=K k+u[k]:=O;simp only[aW]at l;simp -implicitDefEqProofs[jJ,-qA,-qB,-qC,-qD,-qE,-aD,h,f,G,E,u16];refine⟨O,O,k+1,⟨O,?_⟩,O,O⟩;rw[Ck _ _ _ O];grind
  ·have t:k=u.length:=O;subst t;refine rC ?_;exact⟨.inr rfl,by simp[lk,BK,vC],by simp[lk,BK],.tup [],rfl,.inl ⟨rfl,rfl⟩⟩
def Pu:List (List Nat):=(Ah [0,1,3,7,7,7,39,119,247,503,1023,7,2055,7,7,7,49159,114695,253959,516103,1040391,2095111,4194303,8388607,16777215])
@[simp]def Sj:List Seg:=[.one,.one,.one,.any [] [] (Aq [[0,9],[1,9],[2,9],[12,9],[11,13,9],[14,9],[15,9],[10,16,9],[3,9],[18,9],[4,9],[5,9],[2,9],[21,22,9],[23,9],[20,24,9],[25,9],[26,9],[19,27,9]]),.one,.one,.one]
theorem QM(r x:Nat)(a:r<281474976710656)(b:x<65536):Da .u64 (CW .u64 (r:Int) 16) (x:Int)=((r*65536+x:Nat):Int):=by
 have e:CW .u64 (r:Int) 16=((r*65536:Nat):Int):=by
  have:=QL r 16 O;rw[show(2:Nat)^16=65536 from by decide,AX O]at this;exact this
 rw[e,QU _ _ O O,bH];have:=IM x r 16 O;rw[show(2:Nat)^16=65536 from by decide,aG 65536 r]at this;rw[this,bF]
theorem jkn[DrC](q r n j:Nat)(u v:List Nat)(I:2<=n)(K:v.length=n)(H:j+n<=u.length)(l:u.length<=1000)(E:Ok u)(F:Ok v)(k:q<=1000000)(J:r<65536):
  CallsF prog 387 [.c (.ref [.int .u64 q]),.c (.ref [Ad v]),.c (.ref [.int .i64 n]),.c (.ref [.int .u64 r]),.c (.ref [Ad u]),.c (.ref [.int .i64 j])]
   (.u (.c (.d (.bool (decide (65536<=q)||decide (r*65536+u.getD (j+n - 2) 0<q*v.getD (n - 2) 0)))))):=by
 have b:n - 2<v.length:=O;have e:j+n - 2<u.length:=O;have f:v.getD (n - 2) 0=v[n - 2]:=by rw[AL,AD b];rfl
 have g:u.getD (j+n - 2) 0=u[j+n - 2]:=by rw[AL,AD e];rfl
 rw[f,g];have M:v[n - 2]<65536:=F _ (AZ b);have G:u[j+n - 2]<65536:=E _ (AZ e);have h:v[n - 2]? =some v[n - 2]:=AD b;have i:u[j+n - 2]? =some u[j+n - 2]:=AD e;generalize v[n - 2]=y at*;generalize u[j+n - 2]=x at*;have L:q*y<=1000000*65535:=aR k O;have o:q*y%18446744073709551616=q*y:=AX O;have z:=QM r x O G;refine cO func387 rfl ?_;by_cases a:65536<=q
 ·simp (maxSteps:=2000000) -implicitDefEqProofs[jJ,-qA,-qB,-qC,-qD,-qE,a];refine AA Pu Sj O5 ?_;simp (maxSteps:=2000000) -implicitDefEqProofs[jJ,-qA,-qB,-qC,-qD,-qE,a]
 ·have t:(n:Int) - 2=((n - 2:Nat):Int):=O;have w:((j+n:Nat):Int) - 2=((j+n - 2:Nat):Int):=O;simp (maxSteps:=2000000) -implicitDefEqProofs[jJ,-qA,-qB,-qC,-qD,-qE,a];refine AA Pu Sj O5 ?_;have m:x%18446744073709551616=x:=AX O;have p:y%18446744073709551616=y:=AX O;simp (maxSteps:=2000000) -implicitDefEqProofs[jJ,-qA,-qB,-qC,-qD,-qE,a,t,w,h,i,m,o,p,z,u16];omega
def dl(d:Nat):List Nat->List Nat×Nat
 |[]=>([],0)
 |x::a=>(((dl d a).2*65536+x)/d::(dl d a).1,((dl d a).2*65536+x)%d)
theorem Kj{d:Nat}(b:0<d)(e:d<65536): ∀a:List Nat,Ok a->val (dl d a).1*d+(dl d a).2=val a/\(dl d a).2<d/\Ok (dl d a).1/\(dl d a).1.length=a.length
 |[],_=>⟨by simp[dl,val],b,Ok.nil,rfl⟩
 |x::a,h=>by
  obtain⟨l,g,i,j⟩:=Kj b e a h.tail;have m:=h.head;show val (((dl d a).2*65536+x)/d::(dl d a).1)*d+((dl d a).2*65536+x)%d=val (x::a)/\((dl d a).2*65536+x)%d<d/\Ok (((dl d a).2*65536+x)/d::(dl d a).1)/\(((dl d a).2*65536+x)/d::(dl d a).1).length=(x::a).length;generalize dl d a=s at*;obtain⟨q,r⟩:=s;simp only at*;have k:(r*65536+x)/d<65536:=by
   rw[aL b];have:(r+1)*65536<=d*65536:=BC _ g;omega
  refine⟨?_,a8 _ b,Ok.cons k i,by simp[j]⟩;have f:=bA (r*65536+x) d;rw[aG]at f;rw[val,val,bJ,aZ];generalize (r*65536+x)/d*d=A at*;generalize val q*d=B at*;omega
theorem je2{d:Nat}(f:0<d)(b:d<65536){a:List Nat}(h:Ok a):val (dl d a).1=val a/d/\(dl d a).2=val a%d:=by
 obtain⟨g,e,_,_⟩:=Kj f b a h;rw[<-g];constructor
 ·rw[aG,Nat.mul_add_div f,Nat.div_eq_of_lt e,aW]
 ·rw[aG,Nat.mul_add_mod,AX e]
theorem jcu(r x:Nat)(a:r<65536)(b:x<65536):Da .u32 (CW .u32 (r:Int) 16) (x:Int)=((r*65536+x:Nat):Int):=by
 have e:CW .u32 (r:Int) 16=((r*65536:Nat):Int):=by
  have:=Lu r 16 O;rw[show(2:Nat)^16=65536 from by decide,AX O]at this;exact this
 rw[e,Rf _ _ O O,bH];have:=IM x r 16 O;rw[show(2:Nat)^16=65536 from by decide,aG 65536 r]at this;rw[this,bF]
theorem Sd[DrC](a:List Nat)(d:Nat)(o:Ok a)(hl:a.length<=1000)(p:0<d)(b:d<65536):
  CallsF prog 321 [.c (Ad a),.c (.int .u16 d)] (.tup [.c (.d (Ad (limbs (val a/d)))),.c (.d (.int .u16 (val a%d:Nat)))]):=by
 obtain⟨E,F⟩:=je2 p b o;obtain⟨_,hr,K,m⟩:=Kj p b a o;have z:=Q1 (dl d a).1 K O;rw[E]at z;rw[<-F];obtain⟨W,R,J,hW0,hR0,hWn,hRn,hJ0,hJn,hJ,hJs,hst⟩: ∃(W:Nat->List Nat) (R:Nat->Nat) (J:Nat->Int),W 0=aS a.length 0/\R 0=0/\W a.length=(dl d a).1/\R a.length=(dl d a).2/\J 0=(a.length:Int) - 1/\J a.length= -1/\
   (∀k,k<a.length-> ∃j:Nat,J k=j/\j+1+k=a.length)/\(∀k,k<a.length->J (k+1)=J k - 1)/\
   ∀k (_:k<a.length) (j:Nat),J k=j->(W k).length=a.length/\R k<d/\ ∃g:j<a.length,W (k+1)=(W k).set j ((R k*65536+a[j])/d)/\R (k+1)=(R k*65536+a[j])%d:=by
  refine⟨λk=>aS (a.length - k) 0++(dl d (a.drop (a.length - k))).1,λk=>(dl d (a.drop (a.length - k))).2,λk=>(a.length:Int) - 1 - k,by simp[dl],by simp[dl],O1,O1,O1,by simp only;omega,λk v=>⟨a.length - 1 - k,by simp only;omega,O⟩,λk v=>by simp only;omega,λk v j g=> ?_⟩;have I:(a.length:Int) - 1 - k=j:=g;have t:j=a.length - 1 - k:=O;have f:a.drop j=a[j]' O::a.drop (j+1):=BQ O;have oa:Ok (a.drop (j+1)):=λy P=>o y (List.mem_of_mem_drop P);obtain⟨_,s2,_,s4⟩:=Kj p b _ oa;simp only;rw[show a.length - k=j+1 by omega,show a.length - (k+1)=j by omega];refine⟨?_,s2,O,?_,?_⟩
  ·rw[List.length_append,List.length_replicate,s4,List.length_drop];omega
  ·rw[f,dl,List.set_append_left _ _ O1,List.replicate_succ',aH _ _ O1];simp
  ·rw[f,dl]
 rw[<-hWn]at z;rw[<-hRn];have e:(W a.length).length=a.length:=by rw[hWn];exact m
 refine oC func321 ?_;refine⟨O,O,?_⟩;refine AV (λk:Nat=>⟨[(8,vI .i64 (J k)),(7,vI .u32 (R k)),(6,vC (.sl 11 0 a.length)),(0,vC (.d (Ad a))),(1,.u (.c (.d (.int .u16 d))))],[(11,.row 1 ((W k).map u16) true)]⟩) (λk=>k<=a.length) (λk=>a.length - k) 0
  (by simp[AW,lk,St.le,vI,vC,hW0,hR0,hJ0,u16]) O ?_
 rintro k v;by_cases h:k<a.length
 ·obtain⟨j,g,t⟩:=hJ k h;have l:=hJs k h;obtain⟨M,x,i,r,q⟩:=hst k h j g;rw[g]at l ⊢;have N:a[j]<65536:=o _ (AZ i);have oh:=jcu (R k) a[j] O N;have Z: ¬d=0:=O;have L:(R k*65536+a[j])/d<65536:=by
   rw[aL p];have:(R k+1)*65536<=d*65536:=BC _ x;omega
  have Q:a[j]%4294967296=a[j]:=AX O;have S:d%4294967296=d:=AX O;have T:(R k*65536+a[j])/d%4294967296=(R k*65536+a[j])/d:=AX O;have X:(R k*65536+a[j])/d%65536=(R k*65536+a[j])/d:=AX L;simp -implicitDefEqProofs[jJ,-qA,-qB,-qC,-qD,-qE,-aD,i,oh,u16,Z,Q,S,T,X];refine⟨O,O,k+1,⟨⟨by rw[l],q.symm⟩,?_⟩,O,O⟩;rw[Ck _ _ _ O,r]
 ·have w:k=a.length:=O;subst w;have H:List.take a.length (bG u16 (W a.length))=bG u16 (W a.length):=Ba (by simp[e]);have G:D.slice a.length (bG u16 (W a.length))=Ad (W a.length):=by
   show _=D.slice (W a.length).length _;rw[e]
  have Y:R a.length%65536=R a.length:=AX (by rw[hRn];omega);rw[hJn];refine rC2 H G ?_;refine .inl ⟨O,_,z,?_⟩;simp -implicitDefEqProofs[jJ,-qA,-qB,-qC,-qD,-qE,-aD,Y]
theorem CallsA.less[DrC]{P:Program}{f:FuncId}{sz n m:Nat}{cs cs' more:List D}{q:List A}(h:CallsA P f sz n cs q m (cs'++more)):CallsA P f sz n cs q m cs':=by
 refine⟨h.1,λw Z ρ k W vals H J i g l L=>(h.2 w Z ρ k W vals H J i g l L).mono λe X ⟨v,I,p,z,r,E,F,G⟩=>⟨v,I,p,z,⟨r.owns,λj b a=> ?_⟩,E,F,G⟩⟩;by_cases e:j=k
 ·subst e;rw[Bt]at a;cases a;obtain⟨o,K,M,N,Q,S,T⟩:=r.rep j _ (Bt _ _ _);refine⟨o,K,M,N,by simp at Q ⊢;omega,S,λt x y=>T t x ?_⟩;rw[List.getElem?_append_left (jzg.1 y).1];exact y
 ·rw[BD e]at a;cases a
theorem jgw[DrC](a:List Nat)(j:Ok a)(o:a.length<=1099511627776):CallsA prog 343 1 a.length (a.map u16) [] (limbs (val a)).length ((limbs (val a)).map u16):=by
 have e:=Gc a j;have f:=Bu a j;have i:a.map u16=(limbs (val a)).map u16++(a.drop (limbs (val a)).length).map u16:=by
  rw[<-List.map_append];congr 1
  conv=>lhs;rw[<-List.take_append_drop (limbs (val a)).length a]
  congr 1;rw[<-e,A8];have:=FF a a.length;rw[Bs this]
 refine CallsA.less (more:=(a.drop (limbs (val a)).length).map u16) ?_;rw[<-i];have k:(limbs (val a)).length=Bw a a.length:=by
  rw[<-e,A8,Bs (FF a a.length)]
 rw[k];clear i e f;refine Rc (T:=tb) Ak mixed func343 rfl O2 (Al rfl) rfl ?_;unfold St.initA;simp -implicitDefEqProofs[jJ,-qA,-qB,-qC,-qD,-qE,-aD,BK];refine AV (λn:Nat=>⟨[(0,vC (.sl 2000000 0 a.length)),(3,vI .i64 n)],[(2000000,.row 1 (a.map u16) true)]⟩) (λn=>n<=a.length/\Bw a n=Bw a a.length) (λn=>n) a.length
  (by simp[AW,lk,St.le,vI,vC]) ⟨AO _,rfl⟩ ?_
 rintro n ⟨p,g⟩;have l:=FF a a.length;cases n with
 |zero=>
  have b:Bw a a.length=0:=by rw[<-g];rfl
  refine rC1 b ?_;exact⟨.inl rfl,2000000,rfl,by simp[lk]⟩
 |succ n=>
  obtain⟨x,h⟩:=EI (a:=a) (n:=n) O;simp -implicitDefEqProofs[jJ,-qA,-qB,-qC,-qD,-qE,-aD,h,u16];refine⟨O,O,λb=>⟨O,O,?_⟩,λb=>⟨O,?_⟩⟩
  ·rw[<-g];simp[Bw,h,b]
  ·have m:Bw a a.length=n+1:=by rw[<-g];simp[Bw,h,b]
   rw[m];exact⟨.inl rfl,2000000,rfl,by simp[lk]⟩
def B0(s:Nat):List Nat->Nat->List Nat
 |[],c=>[c]
 |x::a,c=>(c+x*2^s%65536)::B0 s a (x*2^s/65536)
theorem Ff{s:Nat}(h:s<16):0<2^s/\2^s<=32768:=by
 constructor
 ·exact aX O
 ·have:2^s<=2^15:=Nat.pow_le_pow_right O O;simpa using this
theorem Of{s x c:Nat}(h:s<16)(i:x<65536)(j:c<2^s):c+x*2^s%65536<65536/\x*2^s/65536<2^s:=by
 have g:=Ff h;have e:65536=2^s*2^(16 - s):=by rw[<-bK,show s+(16 - s)=16 by omega]
 have a:x*2^s%65536=2^s*(x%2^(16 - s)):=by
  rw[aG x]
  conv=>lhs;rw[e]
  exact aY _ _ _
 have b:x%2^(16 - s)<2^(16 - s):=a8 _ (aX O);have f:2^s*(x%2^(16 - s)+1)<=2^s*2^(16 - s):=Nat.mul_le_mul_left _ b;rw[bL,aT,<-e]at f;refine⟨by rw[a];omega,?_⟩;rw[aL O,aG (2^s) 65536];exact aU i g.1
theorem TH{s:Nat}(b:s<16): ∀(a:List Nat) (c:Nat),Ok a->c<2^s->Ok (B0 s a c)/\val (B0 s a c)=val a*2^s+c/\(B0 s a c).length=a.length+1
 |[],c,_,e=>by
  have l:=Ff b;exact⟨Ok.cons O Ok.nil,by simp[B0,val],rfl⟩
 |x::a,c,h,e=>by
  obtain⟨j,k⟩:=Of b h.head e;obtain⟨f,g,i⟩:=TH b a _ h.tail k;refine⟨Ok.cons j f,?_,by simp[B0,i]⟩;rw[B0,val,g,val,bJ,bL,aZ];have:=bA (x*2^s) 65536;generalize val a*2^s=A at*;omega
theorem XQ(a b:Nat)(e:a<65536)(f:b<65536):Da .u16 (a:Int) (b:Int)=((a|||b:Nat):Int):=by
 unfold Da;show IntKind.u16.wrap (((BitVec.ofInt 16 (a:Int)|||BitVec.ofInt 16 (b:Int)).toNat:Nat):Int)=_;have g:a|||b<2^16:=Nat.or_lt_two_pow (n:=16) e f
 rw[BitVec.ofInt_natCast,BitVec.ofInt_natCast,BitVec.toNat_or,BitVec.toNat_ofNat,BitVec.toNat_ofNat,AX (a:=a) e,AX (a:=b) f,DV _ g]
theorem jaS{s x c:Nat}(f:s<16)(h:x<65536)(b:c<2^s):Da .u16 (c:Int) ((x*2^s%65536:Nat):Int)=((c+x*2^s%65536:Nat):Int):=by
 have g:=Ff f;have e:65536=2^s*2^(16 - s):=by rw[<-bK,show s+(16 - s)=16 by omega]
 have a:x*2^s%65536=2^s*(x%2^(16 - s)):=by
  rw[aG x]
  conv=>lhs;rw[e]
  exact aY _ _ _
 rw[XQ _ _ O (a8 _ O),a,IM _ _ _ b]
theorem jeu{s:Nat}(L:s<16)(a:List Nat)(I:Ok a): ∃(W K:Nat->List Nat) (C:Nat->Nat),W 0=aS (a.length+1) 0/\W a.length=B0 s a 0/\(∀i,i<=a.length->(W i).length=a.length+1/\(W i)[i]? =some (C i)/\C i<2^s)/\
  ∀i (h:i<a.length),((W i).set i (C i+a[i]*2^s%65536)).set (i+1) (a[i]*2^s/65536)=W (i+1):=by
 let P:Nat->List Nat:=λi=>(B0 s (a.take i) 0).take i;let C:Nat->Nat:=λi=>(B0 s (a.take i) 0).getD i 0;have f: ∀i,i<=a.length->B0 s (a.take i) 0=P i++[C i]/\(P i).length=i/\C i<2^s/\(∀h:i<a.length,P (i+1)=P i++[C i+a[i]*2^s%65536]/\C (i+1)=a[i]*2^s/65536):=by
  have b: ∀(l:List Nat) (x c:Nat),∃q k,B0 s l c=q++[k]/\q.length=l.length/\B0 s (l++[x]) c=q++[k+x*2^s%65536,x*2^s/65536]:=by
   intro l x
   induction l with
   |nil=>intro c;exact⟨[],c,rfl,rfl,rfl⟩
   |cons y l N=>
    intro c;obtain⟨q,k,e,j,g⟩:=N (y*2^s/65536);exact⟨(c+y*2^s%65536)::q,k,by rw[B0,e];rfl,by simp[j],by rw[List.cons_append,B0,g];rfl⟩
  have one: ∀i,i<=a.length->B0 s (a.take i) 0=P i++[C i]/\(P i).length=i:=λi hi=>by
   obtain⟨q,k,e,j,_⟩:=b (a.take i) 0 0;have m:q.length=i:=by rw[j,A8];omega
   have w:P i=q:=by
    show(B0 s (a.take i) 0).take i=q;rw[e,List.take_append,m,aJ,List.take_zero,List.append_nil,Ba O]
   have v:C i=k:=by
    show(B0 s (a.take i) 0).getD i 0=k;rw[e,AL,aI O,m,aJ];rfl
   rw[w,v];exact⟨e,m⟩
  intro i hi;obtain⟨F,S⟩:=one i hi;have Y: ∀h:i<a.length,P (i+1)=P i++[C i+a[i]*2^s%65536]/\C (i+1)=a[i]*2^s/65536:=λh=>by
   obtain⟨q,k,e,j,g⟩:=b (a.take i) a[i] 0;rw[<-Cr h]at g;obtain⟨T,X⟩:=one (i+1) O;have m:q.length=i:=by rw[j,A8];omega
   rw[F]at e;obtain⟨G,z⟩:=bB e O;rw[T]at g;have H:P (i+1)++[C (i+1)]=(q++[k+a[i]*2^s%65536])++[a[i]*2^s/65536]:=by rw[g];simp
   obtain⟨t,r⟩:=bB H (by simp[X,m]);rw[t,G];simp at z r;exact⟨by rw[z],r⟩
  refine⟨F,S,?_,Y⟩;cases i with
  |zero=>
   show(B0 s (a.take 0) 0).getD 0 0<2^s;simp[B0];exact aX O
  |succ i=>
   obtain⟨q,k,e,j,g⟩:=b (a.take i) (a[i]' O) 0;rw[<-Cr O]at g;have M:=I _ (AZ (show i<a.length by omega));have J:=Ff L;have:C (i+1)=a[i]' O*2^s/65536:=by
    show(B0 s (a.take (i+1)) 0).getD (i+1) 0=_;have m:q.length=i:=by rw[j,A8];omega
    rw[g,AL,aI O,m];simp
   rw[this,aL O,aG (2^s) 65536];exact aU M J.1
 refine⟨λi=>P i++C i::aS (a.length - i) 0,P,C,?_,?_,λi hi=> ?_,λi h=> ?_⟩
 ·obtain⟨p,o,_⟩:=f 0 O;have w:P 0=[]:=jzv.1 o;have v:C 0=0:=rfl;simp only;rw[w,v,Nat.sub_zero];rfl
 ·obtain⟨p,_⟩:=f a.length (AO _);rw[BM]at p;simp only;rw[p,aJ];rfl
 ·obtain⟨p,o,E,_⟩:=f i hi;simp only;refine⟨by simp[o];omega,?_,E⟩;rw[aI O,o,aJ];rfl
 ·obtain⟨p,o,E,Q⟩:=f i O;obtain⟨t,r⟩:=Q h;simp only;rw[t,r,show a.length - i=(a.length - (i+1))+1 by omega,a6,aH _ _ O,o,aJ,aH _ _ O,o,show i+1 - i=1 by omega];simp
theorem MG[DrC](a:List Nat)(s:Nat)(v:Ok a)(hl:a.length<=1000)(r:val a≠0)(g:s<16):
  CallsF prog 366 [.c (Ad a),.c (.int .i64 s)] (.u (.c (.own 1 (limbs (val a*2^s)).length ((limbs (val a*2^s)).map u16)))):=by
 have I:=Q1 a v O;have G:=Bu a v;have o:=Aw (val a);have j:=Az (val a);generalize limbs (val a)=b at*;rw[<-j];have f:b≠[]:=by intro e;rw[e]at j;exact r j.symm
 have F:0<b.length:=List.length_pos_iff.2 f;obtain⟨W,K,C,k,l,E,q⟩:=jeu g b o;obtain⟨T,X,Y⟩:=TH g b 0 o (aX O);have x:=jgw (B0 s b 0) T O;rw[X,aW,Y,<-l]at x;have N:(s:Int).tdiv 16=0:=by
  rw[Int.tdiv_eq_ediv_of_nonneg O];omega
 have P:(s:Int).tmod 16=s:=by
  rw[Int.tmod_eq_emod_of_nonneg O];omega
 have Q: ¬1048576<s:=O;have s2:s/16=0:=O;have s3:s%16=s:=O;clear r j;refine oC func366 ?_;refine Ac I ?_;have S: ¬(s:Int)< -1048576:=O;simp -implicitDefEqProofs[jJ,-qA,-qB,-qC,-qD,-qE,-aD,f,Q,S,N,P];refine⟨O,O,O,O,O,?_⟩;refine AV (λi:Nat=>⟨[(47,vI .i64 i),(46,vI .i64 b.length),(45,vC (.d (Ad b))),(7,vC (.sl 44 0 (b.length+1))),(6,vI .i64 s),(5,vI .i64 0)],[(44,.row 1 ((W i).map u16) true)]⟩) (λi=>i<=b.length) (λi=>b.length - i) 0
  (by simp[AW,lk,St.le,vI,vC,k,u16,a6]) O ?_
 rintro i hi;obtain⟨wl,Z,y⟩:=E i hi;by_cases h:i<b.length
 ·have w:b[i]<65536:=o _ (AZ h);have p:=q i h;have H:=Ff g;have M:=jaS g w y;have J:b[i]%4294967296=b[i]:=AX O;have mm:b[i]*2^s<=65535*32768:=aR O H.2;have sl:CW .u32 (b[i]:Int) (s:Int)=((b[i]*2^s:Nat):Int):=by
   rw[Lu _ _ O,AX O]
  have L:b[i]*2^s/65536%65536=b[i]*2^s/65536:=AX O;have lo:=(Of g w y).1;generalize b[i]*2^s=t at*;have z:=Ck (W i) i (C i+t%65536) O;simp -implicitDefEqProofs[jJ,-qA,-qB,-qC,-qD,-qE,-aD,h,Z,J,sl,M,L,u16];rw[z];refine⟨O,O,O,O,O,by simp;omega,O,i+1,⟨rfl,?_⟩,O,O⟩;rw[Ck _ _ _ (by simp;omega),p]
 ·have m:i=b.length:=O;subst m;refine rC ?_;refine .inr (.inr (.inr (.inr (.inr ⟨rfl,44,b.length+1,1,_,_,(W b.length).map u16,_,_,[],rfl,by simp[lk],rfl,rfl,x,?_⟩))));simp -implicitDefEqProofs[jJ,-qA,-qB,-qC,-qD,-qE,-aD,St.drop]
end Go.Va
