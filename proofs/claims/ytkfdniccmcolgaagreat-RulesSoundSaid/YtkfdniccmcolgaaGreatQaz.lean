/- a part of the proof -/
import Derived.Test.YtkfdniccmcolgaaGreatQay
import Derived.Test.YtkfdniccmcolgaaGreatQao
import Derived.Test.YtkfdniccmcolgaaGreatQax
import Derived.Test.YtkfdniccmcolgaaGreatQap
import Derived.Deep.Slices
set_option linter.all false
set_option maxHeartbeats 4000000
set_option maxRecDepth 100000
namespace Go.Va
open Int (natCast_add natCast_mul natCast_emod natCast_ediv natCast_pow)
open Go.Proofs
theorem Xr(x:Value)(b:Bnd)(i:Nat)(hi:i≤1000)(cl:List D)(ys:List (List A))(h:Bp Tryz.prog x 106 ([.c (.int .i64 (i+1:Nat)),.agg b.ds]++cl.map .c) ys):
  Bp Tryz.prog x 108 [.agg b.ds,.c (.ref [.fn 106 cl]),.c (.ref [.int .i64 i])] ys:=by
 refine Cz (T:=tb) Ad mixed Tryz.func108 rfl (by decide) (Ac rfl) rfl rfl ?_;intro rest;unfold St.initY
 simp -implicitDefEqProofs[jJ,-natCast_add,-natCast_mul,-List.reduceReplicate];refine⟨by omega,.inr (.inr (.inl ⟨x,ys,rest,_,by simp[lk],?_,h,?_⟩))⟩
 ·simp[St.argsW,U.toA,toD]
 ·simp only[St.reachU,List.flatMap_cons,List.flatMap_nil,U.all,List.append_nil,List.cons_append,List.nil_append,Cb,Bnd.reach_cs,Ch,Cg];simp -implicitDefEqProofs[jJ,-natCast_add,-natCast_mul,-List.reduceReplicate,St.backY,St.rest,BH]
theorem Mk(l:List Fct)(i:Nat)(h:i<l.length):((l.flatMap Fct.ds).map C.d|>.drop (i*5)).take 5=l[i].ds.map .d:=by
 have:((l.flatMap Fct.ds).drop (i*5)).take 5=l[i].ds:=G1 Fct.ds_len l i h
 rw[←List.map_drop,←List.map_take,this]
def Gs(nb prem r addb:D):Nat→D
 |0=>nb
 |k+1=> .ref [.fn 106 [prem,r,Gs nb prem r addb k,addb]]
def found1(E:Bnd→List (List A))(M:Nat→Bnd→List Bnd):Nat→Nat→Bnd→List (List A)
 |0,_,b=>E b
 |k+1,i,b=>(M i b).flatMap (found1 E M k (i+1))
theorem jhe{a b:Bnd}(h:AT a=AT b):a=b:=by
 have h1:a.ds=b.ds:=by
  injection h with h _
  injection h
 have h2:a.v=b.v:=(List.map_inj_right (fun x y e=>by injection e)).1 h1
 cases a;cases b;simp only at h2;subst h2;rfl
noncomputable def Ky (F:Bnd→List (List A)) (y:List A):List (List A):=by
 classical
 exact if h: ∃c,AT c=y then F h.choose else []
theorem Vs(F:Bnd→List (List A))(c:Bnd):Ky F (AT c)=F c:=by
 have h: ∃d,AT d=AT c:=⟨c,rfl⟩
 unfold Ky;rw[dif_pos h,jhe h.choose_spec]
theorem ja5(F:Bnd→List (List A))(l:List Bnd):(l.map AT).flatMap (Ky F)=l.flatMap F:=by
 rw[List.flatMap_map]
 exact congrArg (fun g=>l.flatMap g) (funext fun c=>Vs F c)
theorem jeV(x:Value)(prem:List Fct)(r:Rul)(nb addb:D)(E:Bnd→List (List A))(M:Nat→Bnd→List Bnd)(hp:prem.length≤r.prem.length)(hl:prem.length≤1000)
  (hM: ∀i (h:i<prem.length) (b:Bnd),b.Ok→(∀x',Bp Tryz.prog x' 107 [.agg (r.prem[i]'(by omega)).ds,.agg prem[i].ds,.agg b.ds,.c (.lit x')] ((M i b).map AT))∧ ∀c∈M i b,c.Ok)
  (k i:Nat) (b:Bnd) (hb:b.Ok) (hi:i+k+1=prem.length)
  (ih: ∀c:Bnd,c.Ok→Bp Tryz.prog x 106 [.c (.int .i64 (i+1:Nat)),.agg c.ds,.c (.ref [.slice prem.length (prem.flatMap Fct.ds)]),.c (.ref r.ds),.c (Gs nb (.ref [.slice prem.length (prem.flatMap Fct.ds)]) (.ref r.ds) addb k),.c addb] (found1 E M k (i+1) c)):
  Bp Tryz.prog x 106 [.c (.int .i64 i),.agg b.ds,.c (.ref [.slice prem.length (prem.flatMap Fct.ds)]),.c (.ref r.ds),.c (Gs nb (.ref [.slice prem.length (prem.flatMap Fct.ds)]) (.ref r.ds) addb (k+1)),.c addb] (found1 E M (k+1) i b):=by
 have q:=hM i (by omega) b hb
 have hi1:i<prem.length:=by omega
 have hi2:i<r.prem.length:=by omega
 have g0:=NU r.prem i hi2;have g1:=Mk prem i hi1;refine Cz (T:=tb) Ad mixed Tryz.func106 rfl (by decide) (Ac rfl) rfl rfl ?_;intro rest;unfold St.initY
 simp only[Rul.ds,B9];simp -implicitDefEqProofs[jJ,-natCast_add,-natCast_mul,-List.reduceReplicate,hi1];refine Af (Aj [0,1,0,7,15,0,0,96,224,0,0,2047]) [.any [] [] (Ao [[3],[17],[6],[18,19],[20],[2],[6],[22,23],[24],[7],[4,6]]),.one] (by rfl) ?_
 simp -implicitDefEqProofs[jJ,-natCast_add,-natCast_mul,-List.reduceReplicate,g0,g1];refine⟨hi2,by omega,hi1,by omega,.inr (.inr (.inr (.inl ⟨rfl,x,(M i b).map AT,rest,[.agg (r.prem[i]).ds,.agg prem[i].ds,.agg b.ds],108,[Gs nb (.ref [.slice prem.length (prem.flatMap Fct.ds)]) (.ref r.ds) addb (k+1),.ref [.int .i64 i]],Ky (found1 E M k (i+1)),?_,?_,fun x'=>q.1 x',?_,?_⟩)))⟩
 ·rw[ja5];simp[lk,found1]
 ·simp only[St.reachU,List.flatMap_cons,List.flatMap_nil,U.all,List.append_nil,List.cons_append,List.nil_append,Cb,Bnd.reach_cs,Ch,Cg];simp -implicitDefEqProofs[jJ,-natCast_add,-natCast_mul,-List.reduceReplicate,U.toA,toD,Rul.ds,B9,A6,C.id?];rfl
 ·intro y hy;obtain⟨c,hc,rfl⟩:=jzk.1 hy;rw[Vs];exact Xr x c i (by omega) _ _ (ih c (q.2 c hc))
 ·simp only[St.reachU,List.flatMap_cons,List.flatMap_nil,U.all,List.append_nil,List.cons_append,List.nil_append,Cb,Bnd.reach_cs,Ch,Cg];simp -implicitDefEqProofs[jJ,-natCast_add,-natCast_mul,-List.reduceReplicate,St.backY,St.rest,BH,A6,C.id?]
def D9(b:Bnd)(p:Pat):Fct:=⟨p.kind,Bi b p.letters,false,if p.kind=9 then limbs p.n.toNat else [],if p.kind=9 then limbs 1 else []⟩
def grdsD(l:List Grd):D:= .slice l.length (l.flatMap Grd.ds)
def HI(b:Bnd)(gl:List Grd)(p:Pat):List A:=[.agg (D9 b p).ds,.c (grdsD gl)]
def Fv(b:Bnd)(gl:List Grd)(l:List Pat)(i:Nat):List (List A):=(l.drop i).map (HI b gl)
theorem jbn(b:Bnd)(gl:List Grd)(l:List Pat)(i:Nat)(h:i<l.length):Fv b gl l i=HI b gl l[i]::Fv b gl l (i+1):=by
 unfold Fv;rw[AD h];rfl
theorem jdZ(b:Bnd)(gl:List Grd)(l:List Pat):Fv b gl l l.length=[]:=by simp[Fv]
def EZ(r:Rul)(b:Bnd):List (List A):=if Gv b r.guards then Fv b (guardsL b r.guards) r.concl 0 else []
theorem jbg(x:Value)(prem:List Fct)(r:Rul)(nb:D)(hl:prem.length≤1000)(hc:r.concl.length≤1000)(hg:r.guards.length≤1000)(hgo: ∀p∈r.guards,p.Ok)(hco: ∀p∈r.concl,p.Ok∧0≤p.n∧p.n≤1000)
  (b:Bnd) (hb:b.Ok):
  Bp Tryz.prog x 106 [.c (.int .i64 (prem.length:Nat)),.agg b.ds,.c (.ref [.slice prem.length (prem.flatMap Fct.ds)]),.c (.ref r.ds),.c nb,.c (.ref [.lit x])] (EZ r b):=by
 have q0:=(jgD b hb r.guards hgo hg).dat;simp only[B9,R.dat,RU.dat,RC.dat,List.map_cons,List.map_nil]at q0;rw[AI (by simp)]at q0
 unfold EZ;refine Cz (T:=tb) Ad mixed Tryz.func106 rfl (by decide) (Ac rfl) rfl rfl ?_;intro rest;unfold St.initY
 simp only[Rul.ds,B9];simp -implicitDefEqProofs[jJ,-natCast_add,-natCast_mul,-List.reduceReplicate];refine Aa q0 ?_;rw[Bnd.flatMap_reach b _ (fun c hc=>by simp only[hc])]
 cases hgb:Gv b r.guards with
 |false=>
  simp -implicitDefEqProofs[jJ,-natCast_add,-natCast_mul,-List.reduceReplicate,BH]
 |true=>
  simp -implicitDefEqProofs[jJ,-natCast_add,-natCast_mul,-List.reduceReplicate];generalize guardsL b r.guards=gl;refine Av (fun i:Nat=>⟨[(41,vI .i64 i),(40,vI .i64 r.concl.length),(39,vC (.d (.slice r.concl.length (r.concl.flatMap Pat.ds)))),(8,vC (.d (.slice gl.length (gl.flatMap Grd.ds)))),(7,vC (.ptr 7 0)),(5,vC (.d (.ref [.lit x]))),(YS,.tr x (Fv b gl r.concl i++rest))],[(7,.box b.cs)]⟩)
   (fun i=>i≤r.concl.length) (fun i=>r.concl.length - i) 0 (by simp[An,lk,St.le,vI,vC,YS]) (by omega) ?_
  rintro i hi
  by_cases h:i<r.concl.length
  ·have g:=NU r.concl i h;have hpi:=hco r.concl[i] (Ak h);have b1:i*3+3≤r.concl.length*3:=by omega
   have q1:=(Uj b hb r.concl[i].letters hpi.1.2.2 hpi.1.2.1).dat;simp only[R.dat,RU.dat,RC.dat]at q1;rw[AI (by simp)]at q1
   rw[jbn b gl r.concl i h]
   simp -implicitDefEqProofs[jJ,-natCast_add,-natCast_mul,-List.reduceReplicate,h,g];refine⟨by omega,?_⟩
   refine Af (Aj [0,1,0,0,8,28,63,0,255]) [.any [] [12] [⟨0,[11],[12],[12],[]⟩,⟨0,[45],[12],[12],[]⟩,⟨0,[7],[12],[12],[]⟩,⟨0,[11],[12],[12],[]⟩,⟨0,[48],[12],[12],[]⟩,⟨0,[47,49],[12],[12],[]⟩,⟨0,[46,50],[12],[12],[]⟩,⟨1,[],[],[],[]⟩],.one] (by rfl) ?_
   simp -implicitDefEqProofs[jJ,-natCast_add,-natCast_mul,-List.reduceReplicate];refine Al q1 ?_;simp -implicitDefEqProofs[jJ,-natCast_add,-natCast_mul,-List.reduceReplicate];refine⟨fun h9=> ?_,fun h9=> ?_⟩
   ·obtain⟨n,hn⟩: ∃n:Nat,r.concl[i].n=(n:Int):=⟨r.concl[i].n.toNat,by omega⟩
    have q2:=IZ n (by omega)
    rw[←hn]at q2
    refine Aa q2 ?_;simp -implicitDefEqProofs[jJ,-natCast_add,-natCast_mul,-List.reduceReplicate];refine⟨HI b gl r.concl[i],Fv b gl r.concl (i+1)++rest,by simp[lk],?_,?_⟩
    ·simp -implicitDefEqProofs[jJ,-natCast_add,-natCast_mul,-List.reduceReplicate,St.argsW,U.toA,HI,D9,h9,hn,grdsD,toD]
    ·simp -implicitDefEqProofs[jJ,-natCast_add,-natCast_mul,-List.reduceReplicate,St.backY,St.rest];refine⟨by omega,i+1,⟨rfl,rfl⟩,by omega,by omega⟩
   ·refine⟨HI b gl r.concl[i],Fv b gl r.concl (i+1)++rest,by simp[lk],?_,?_⟩
    ·simp -implicitDefEqProofs[jJ,-natCast_add,-natCast_mul,-List.reduceReplicate,St.argsW,U.toA,HI,D9,h9,grdsD,toD];rfl
    ·simp -implicitDefEqProofs[jJ,-natCast_add,-natCast_mul,-List.reduceReplicate,St.backY,St.rest];refine⟨by omega,i+1,⟨rfl,rfl⟩,by omega,by omega⟩
  ·have e:i=r.concl.length:=by omega
   subst e;rw[jdZ];simp -implicitDefEqProofs[jJ,-natCast_add,-natCast_mul,-List.reduceReplicate,h,BH]
theorem U1(x:Value)(prem:List Fct)(r:Rul)(nb:D)(M:Nat→Bnd→List Bnd)(hp:prem.length≤r.prem.length)(hl:prem.length≤1000)(hc:r.concl.length≤1000)(hg:r.guards.length≤1000)(hgo: ∀p∈r.guards,p.Ok)(hco: ∀p∈r.concl,p.Ok∧0≤p.n∧p.n≤1000)
  (hM: ∀i (h:i<prem.length) (b:Bnd),b.Ok→(∀x',Bp Tryz.prog x' 107 [.agg (r.prem[i]'(by omega)).ds,.agg prem[i].ds,.agg b.ds,.c (.lit x')] ((M i b).map AT))∧ ∀c∈M i b,c.Ok):
  ∀(k i:Nat) (b:Bnd),b.Ok→i+k=prem.length→
  Bp Tryz.prog x 106 [.c (.int .i64 (i:Nat)),.agg b.ds,.c (.ref [.slice prem.length (prem.flatMap Fct.ds)]),.c (.ref r.ds),.c (Gs nb (.ref [.slice prem.length (prem.flatMap Fct.ds)]) (.ref r.ds) (.ref [.lit x]) k),.c (.ref [.lit x])] (found1 (EZ r) M k i b)
 |0,i,b,hb,hi=>by
  obtain rfl:i=prem.length:=by omega
  exact jbg x prem r nb hl hc hg hgo hco b hb
 |k+1,i,b,hb,hi=>jeV x prem r nb _ (EZ r) M hp hl hM k i b hb (by omega) fun c hc2=>U1 x prem r nb M hp hl hc hg hgo hco hM k (i+1) c hc2 (by omega)
theorem jd0(x:Value)(prem:List Fct)(r:Rul)(M:Nat→Bnd→List Bnd)(hp:prem.length≤r.prem.length)(hl:prem.length≤3)(hc:r.concl.length≤1000)(hg:r.guards.length≤1000)(hgo: ∀p∈r.guards,p.Ok)(hco: ∀p∈r.concl,p.Ok∧0≤p.n∧p.n≤1000)
  (hM: ∀i (h:i<prem.length) (b:Bnd),b.Ok→(∀x',Bp Tryz.prog x' 107 [.agg (r.prem[i]'(by omega)).ds,.agg prem[i].ds,.agg b.ds,.c (.lit x')] ((M i b).map AT))∧ ∀c∈M i b,c.Ok) (b0:Bnd) (h0:b0.v=List.replicate 78 0):
  Bp Tryz.prog x 56 [.agg r.ds,.c (.slice prem.length (prem.flatMap Fct.ds)),.c (.lit x)] (found1 (EZ r) M prem.length 0 b0):=by
 have q:=fun nb=>U1 x prem r nb M hp (by omega) hc hg hgo hco hM prem.length 0 b0 (by unfold Bnd.Ok;rw[h0];intro y hy;have:=List.eq_of_mem_replicate hy;omega) (by omega)
 have e:List.replicate 78 (C.d (D.int .i64 0))=b0.cs:=by unfold Bnd.cs;rw[h0];rfl
 generalize found1 (EZ r) M prem.length 0 b0=ys at*;clear hM hco hgo hp hc hg;refine Cz (T:=tb) Ad mixed Tryz.func56 rfl (by decide) (Ac rfl) rfl rfl ?_;intro rest;unfold St.initY
 simp only[Rul.ds,B9]at*;simp -implicitDefEqProofs[jJ,-natCast_add,-natCast_mul,-List.reduceReplicate,e];obtain hl0|hl0|hl0|hl0:prem.length=0∨prem.length=1∨prem.length=2∨prem.length=3:=by omega
 all_goals
  rw[hl0]at q ⊢
  have q:=q (Gs (.ref [.fn 106 [.any,.any,.any,.any]]) (.ref [.slice prem.length (prem.flatMap Fct.ds)]) (.ref [.str (bs r.name),.slice r.prem.length (r.prem.flatMap Pat.ds),.slice r.concl.length (r.concl.flatMap Pat.ds),.slice r.guards.length (r.guards.flatMap Pat.ds),.int .i64 r.count,r.derive]) (.ref [.lit x]) (3 - prem.length));rw[hl0]at q;simp only[Gs,Nat.sub_zero,Nat.reduceSub]at q;refine .inr (.inr (.inl ⟨x,_,rest,_,by simp[lk],?_,q,?_⟩))
  ·simp -implicitDefEqProofs[jJ,-natCast_add,-natCast_mul,-List.reduceReplicate,St.reachU,U.all,A6,C.id?,St.argsW,U.toA,toD,Gs]
  ·simp -implicitDefEqProofs[jJ,-natCast_add,-natCast_mul,-List.reduceReplicate,St.backY,St.rest,BH]
end Go.Va
namespace Go.Va
open Go.Proofs
structure Fnd where
 fact:Fct
 grds:List Grd
def Fnd.ds(x:Fnd):List D:=[.int .i64 x.fact.kind,intsD x.fact.args,.bool x.fact.neg,Ab x.fact.abs,Ab x.fact.den,grdsD x.grds]
theorem Fnd.ds_len(x:Fnd):x.ds.length=6:=rfl
@[simp high]theorem LN(l:List Fnd):(l.flatMap Fnd.ds).length=l.length*6:=EO Fnd.ds_len l
def CH(g:Fct)(l:List Fct):Bool:=l.any fun a=>decide (Aw g a=0)
def CE(g:Fct):List Fct→Nat→Int
 |[],_=> -1
 |a::l,i=>if Aw g a=0 then i else CE g l (i+1)
theorem VD(g:Fct): ∀(l:List Fct) (i:Nat),0≤CE g l i↔CH g l=true
 |[],i=>by simp[CE,CH]
 |a::l,i=>by
  unfold CE;by_cases h:Aw g a=0
  ·rw[if_pos h];simp[h,CH]
  ·rw[if_neg h,VD g l (i+1)];simp[h,CH]
theorem Uu{g:Fct}{l:List Fct}{i:Nat}(h:i<l.length):CE g (l.drop i) i=if Aw g l[i]=0 then (i:Int) else CE g (l.drop (i+1)) (i+1):=by
 rw[AD h]
 rfl
theorem K1(g:Fct): ∀(l:List Fct) (i:Nat),CE g l i= -1∧(∀a∈l,Aw g a≠0)∨ ∃k,∃h:k<l.length,CE g l i=((i+k:Nat):Int)∧Aw g l[k]=0
 |[],i=> .inl ⟨rfl,by simp⟩
 |a::l,i=>by
  unfold CE;by_cases h:Aw g a=0
  ·rw[if_pos h];exact .inr ⟨0,by simp,by simp,by simpa using h⟩
  ·rw[if_neg h]
   rcases K1 g l (i+1)with⟨h1,h2⟩|⟨k,hk,h1,h2⟩
   ·exact .inl ⟨h1,fun b hb=>by rcases jzn.1 hb with rfl|hb;exact h;exact h2 b hb⟩
   ·exact .inr ⟨k+1,by simpa using hk,by rw[h1];omega,by simpa using h2⟩
def Bx:List Grd→List Grd→Int
 |[],[]=>0
 |[],_::_=> -1
 |_::_,[]=>1
 |a::x,b::y=>if cmpG a b≠0 then cmpG a b else Bx x y
def BF(a b:List Grd):Bool:=if a.length≠b.length then decide (a.length<b.length) else decide (Bx a b<0)
def Ef(nl:List Fct)(l:List Fnd)(f:Fct)(g:List Grd):List Fnd:=
 if f.kind=0∨Dd f=true∨CH f nl=true then l else
 let i:=CE f (l.map Fnd.fact) 0
 if i<0 then l++[⟨f,g⟩] else
 match l[i.toNat]? with
 |none=>l
 |some x=>if BF g x.grds then l.set i.toNat ⟨x.fact,g⟩ else l
def G0(nl:List Fct)(l:List Fnd)(f:Fct)(g:List Grd):List Fnd:=Ef nl l (normF f) g
structure FndOk (l:List Fnd):Prop where
 rt: ∀x∈l,x.fact.Rt
 sh: ∀x∈l,x.grds.length≤10∧ ∀g∈x.grds,g.Short
 nd:l.Pairwise fun x y=>x.fact≠y.fact
theorem FndOk.nil:FndOk []:=⟨by simp,by simp,.nil⟩
theorem Ca{f:Fct}(hm:f.Mild)(h:(normF f).kind≠0):(normF f).Rt:=by
 unfold normF at h ⊢;split
 ·rename_i h1
  exact HW ⟨h1,hm⟩
 ·rename_i h1
  rw[if_neg h1]at h
  exact absurd rfl h
theorem VA{nl:List Fct}{l:List Fnd}{f:Fct}{g:List Grd}(hl:FndOk l)(hf:f.kind≠0→f.Rt)(hg:g.length≤10∧ ∀x∈g,x.Short):FndOk (Ef nl l f g):=by
 unfold Ef;split
 ·exact hl
 ·rename_i h0
  have hrt:f.Rt:=hf fun h=>h0 (.inl h)
  rcases K1 f (l.map Fnd.fact) 0 with⟨h1,h2⟩|⟨k,hk,h1,h2⟩
  ·simp only[h1];rw[if_pos (by omega)]
   refine⟨fun x hx=> ?_,fun x hx=> ?_,?_⟩
   ·rcases List.mem_append.1 hx with hx|hx
    ·exact hl.rt x hx
    ·rw[List.mem_singleton]at hx;subst hx;exact hrt
   ·rcases List.mem_append.1 hx with hx|hx
    ·exact hl.sh x hx
    ·rw[List.mem_singleton]at hx;subst hx;exact hg
   ·rw[List.pairwise_append]
    refine⟨hl.nd,List.pairwise_singleton _ _,fun x hx y hy=> ?_⟩
    rw[List.mem_singleton]at hy
    subst hy;intro e;have:=h2 x.fact (jzk.2 ⟨x,hx,rfl⟩);rw[e]at this;exact this ((Et hrt hrt).2 rfl)
  ·simp only[h1];rw[if_neg (by omega)]
   rw[List.length_map]at hk
   have e1:((0+k:Nat):Int).toNat=k:=by omega
   rw[e1,Ai hk]
   simp only;split
   ·have hset: ∀x∈l.set k ⟨l[k].fact,g⟩,x∈l∨x=⟨l[k].fact,g⟩:=fun x hx=>List.mem_or_eq_of_mem_set hx
    refine⟨fun x hx=> ?_,fun x hx=> ?_,?_⟩
    ·rcases hset x hx with hx|rfl
     ·exact hl.rt x hx
     ·exact hl.rt l[k] (Ak hk)
    ·rcases hset x hx with hx|rfl
     ·exact hl.sh x hx
     ·exact hg
    ·have h3:(l.map Fnd.fact).Pairwise (· ≠ ·):=by rw[List.pairwise_map];exact hl.nd
     have h4:(l.set k ⟨l[k].fact,g⟩).map Fnd.fact=l.map Fnd.fact:=by
      rw[List.map_set]
      apply List.ext_getElem (by simp)
      intro j h5 h6;rw[List.getElem_set];split
      ·rename_i e;subst e;simp
      ·rfl
     rw[←h4,List.pairwise_map]at h3
     exact h3
   ·exact hl
theorem Yv(nl:List Fct)(l:List Fnd)(f:Fct)(g:List Grd):(Ef nl l f g).length≤l.length+1:=by
 unfold Ef;split
 ·omega
 ·simp only;split
  ·simp
  ·split
   ·omega
   ·split<;>simp
end Go.Va
namespace Go.Va
open Go.Proofs Go.ChangeShapes Go.WideShapes Go.ChangeAt Go.RowKit
theorem jeZ(l:List Fct)(j:Nat):(l.flatMap Fct.ds)[j]? =(l[j/5]?).bind fun f=>f.ds[j%5]? :=by
 have e:j=j/5*5+j%5:=by omega
 have h1:(l.flatMap Fct.ds)[j]? =((l.flatMap Fct.ds).drop (j/5*5))[j%5]? :=by
  rw[List.getElem?_drop]
  congr 1
 rw[h1,DZ Fct.ds_len]
 by_cases h:j/5<l.length
 ·rw[AD h,Ai h,List.flatMap_cons,List.getElem?_append_left (by rw[Fct.ds_len];omega)]
  rfl
 ·rw[List.drop_eq_nil_of_le (by omega),BG (l:=l) (by omega)]
  rfl
section
variable {H:Type} {enc:TypeId×Value→H} {w:World} {base:Nat} {sp:Nat→Bool} {hd:Bool}
theorem jcg{fuel:Nat}{cs:List Value}{x:DataW H×List MemPlace}(hlen:cs.length=5)(h:DataW.trod enc Tryz.prog w base sp hd fuel 39 cs=some x):
  ∃f:Fct,InFact f∧ ∀(j:Nat) (x:D) (u:Value),f.ds[j]? =some x→cs[j]? =some u→RepD w Z0 x u:=by
 obtain⟨xs,n,_,_,_,_,hf⟩:=DataW.trod_struct Tryz.underlying39 h
 have hc3:Tryz.prog.cellsOf 3=1:=by kernel_rfl
 have hc22:Tryz.prog.cellsOf 31=1:=by kernel_rfl
 have hc28:Tryz.prog.cellsOf 37=3:=by kernel_rfl
 have hc26:Tryz.prog.cellsOf 35=2:=by kernel_rfl
 have hc24:Tryz.prog.cellsOf 33=1:=by kernel_rfl
 have hc4:Tryz.prog.cellsOf 4=1:=by kernel_rfl
 obtain⟨c0,c1,c2,c3,c4,rfl⟩: ∃c0 c1 c2 c3 c4,cs=[c0,c1,c2,c3,c4]:=by
  match cs,hlen with
  |[c0,c1,c2,c3,c4],_=>exact⟨c0,c1,c2,c3,c4,rfl⟩
 have some_of: ∀{α:Type} {o:Option α} {l:List α} {i:Nat},o=l[i]? →i<l.length→ ∃y,o=some y:=fun {α o l i} h hi=>⟨l[i],by rw[h,Ai hi]⟩
 have hx3:xs.length=3:=by assumption
 obtain⟨y0,g0⟩:=some_of (hf 0 _ rfl) (by omega)
 obtain⟨y1,g1⟩:=some_of (hf 1 _ rfl) (by omega)
 obtain⟨y2,g2⟩:=some_of (hf 2 _ rfl) (by omega)
 simp only[hc3,hc22,hc28,List.getElem_toArray,List.getElem_cons_zero,List.getElem_cons_succ,List.drop_zero,List.take_succ_cons,List.take_zero,List.drop_succ_cons]at g0 g1 g2;obtain⟨k,e0,_,_⟩:=DataW.trod_int Tryz.underlying3 g0;obtain⟨l,u1,e1,r1⟩:=To g1;obtain⟨ys,n2,_,_,_,hy2,hf2⟩:=DataW.trod_struct Tryz.underlying37 g2;have hy2':ys.length=2:=hy2;obtain⟨z0,k0⟩:=some_of (hf2 0 _ rfl) (by omega)
 obtain⟨z1,k1⟩:=some_of (hf2 1 _ rfl) (by omega)
 simp only[hc26,hc24,List.getElem_toArray,List.getElem_cons_zero,List.getElem_cons_succ,List.drop_zero,List.take_succ_cons,List.take_zero,List.drop_succ_cons]at k0 k1;obtain⟨D4,u4,o4,e4,r4⟩:=Lu k1;obtain⟨zs,n3,_,_,_,hz2,hf3⟩:=DataW.trod_struct Tryz.underlying35 k0;have hz2':zs.length=2:=hz2;obtain⟨q0,j0⟩:=some_of (hf3 0 _ rfl) (by omega)
 obtain⟨q1,j1⟩:=some_of (hf3 1 _ rfl) (by omega)
 simp only[hc4,hc24,List.getElem_toArray,List.getElem_cons_zero,List.getElem_cons_succ,List.drop_zero,List.take_succ_cons,List.take_zero,List.drop_succ_cons]at j0 j1;obtain⟨b,e2,_⟩:=DataW.trod_bool Tryz.underlying4 j0;obtain⟨D3,u3,o3,e3,r3⟩:=Lu j1;cases e0;cases e1;cases e2;cases e3;cases e4;refine⟨⟨k,l,b,D3,D4⟩,⟨o3,o4⟩,fun j x u hx hu=> ?_⟩
 match j,hx,hu with
 |0,hx,hu=>cases hx;cases hu;exact .int _ _
 |1,hx,hu=>cases hx;cases hu;exact r1
 |2,hx,hu=>cases hx;cases hu;exact .bool _
 |3,hx,hu=>cases hx;cases hu;exact r3
 |4,hx,hu=>cases hx;cases hu;exact r4
theorem RV{r:Reach}{b0:Nat}{v:Value}{d:DataW H}{p:List MemPlace}(hval:Value.okWide Tryz.prog w r b0 22 v)(h:DataW.Trod enc Tryz.prog w base sp hd 22 v d p):
  ∃l:List Fct,(∀f∈l,InFact f)∧A.rep w Z0 (.c (AE l)) v:=by
 obtain⟨fuel,h⟩:=h
 unfold Value.okWide at hval;rw[Tryz.underlying22]at hval;simp only at hval;unfold Cell.okWide at hval;rw[Tryz.underlying22]at hval;have hv:v.cells.toList=[v]:=by
  cases v with
  |agg cs=>simp[Cell.ok,Tryz.underlying22]at hval
  |_=>rfl
 rw[hv]at h
 have hc5:Tryz.prog.cellsOf 39=5:=by kernel_rfl
 rcases Go.Deep.open_slice Tryz.underlying22 h with⟨e,_⟩|⟨a,len,cap,m,n,DD,Pl,e,_,h1,h2,h3,_,h4⟩
 ·obtain rfl:v= .slice none 0 0:=by simpa using e
  exact⟨[],by simp,.snil⟩
 ·obtain rfl:v= .slice (some a) len cap:=by simpa using e
  have hm:len≤m:=by rw[h3];split<;>omega
  rw[hc5]at h4
  have each: ∀i,i<m→ ∃q:Fct×List Value,InFact q.1∧q.2.length=5∧(∀k,k<5→w.cell? ((a.add (i*5)).add k)=q.2[k]?)∧ ∀(j:Nat) (x:D) (u:Value),q.1.ds[j]? =some x→q.2[j]? =some u→RepD w Z0 x u:=fun i hi=>by
   obtain⟨cs,c1,c2⟩:=h4 i hi
   obtain⟨_,c3,c4⟩:=World.cells?_some c1
   obtain⟨f,f1,f2⟩:=jcg c3 c2
   exact⟨(f,cs),f1,c3,c4,f2⟩
  haveI:Inhabited (Fct×List Value):=⟨(⟨0,[],false,[],[]⟩,[])⟩
  obtain⟨q,hq⟩:=Go.Deep.choose_lt each
  have hspot:0<len→a.spot=none:=fun h=>by
   obtain⟨_,q1,q2,_⟩:=hq 0 (by omega)
   have q2:=q2 0 (by omega)
   rw[Ai (by omega)]at q2
   have:=q2
   unfold Addr.add at this;simp only[Nat.zero_mul,if_true]at this;unfold World.cell? at this;split at this
   ·split at this
    ·cases this
    ·rename_i hn
     simpa using hn
   ·cases this
  refine⟨(List.range len).map fun i=>(q i).1,fun f hf=> ?_,?_⟩
  ·obtain⟨i,hi,rfl⟩:=jzk.1 hf
   exact(hq i (by have:=List.mem_range.1 hi;omega)).1
  ·have hx: ∀(j:Nat) (x:Va.D),((((List.range len).map fun i=>(q i).1)).flatMap Fct.ds)[j]? =some x→j/5<len∧(q (j/5)).1.ds[j%5]? =some x:=fun j x hj=>by
    rw[jeZ,Bw]at hj
    by_cases h:j/5<len
    ·rw[List.getElem?_range h]at hj
     exact⟨h,by simpa using hj⟩
    ·rw[BG (by simpa using h)]at hj
     cases hj
   show RepD w Z0 (.slice _ _) _
   rw[show((List.range len).map fun i=>(q i).1).length=len by simp]
   have hat: ∀j,j/5<len→w.cell? ⟨a.block,a.off+j,none⟩=some ((q (j/5)).2.getD (j%5) .nilFunc):=fun j hj=>by
    obtain⟨_,q1,q2,_⟩:=hq (j/5) (by omega)
    have q2:=q2 (j%5) (by omega)
    rw[Ar,Ai (by omega)]
    rw[Ai (by omega),Go.Deep.add_add]at q2
    have hs:=hspot (by omega)
    have:a.add (j/5*5+j%5)=⟨a.block,a.off+j,none⟩:=by
     rw[show j/5*5+j%5=j by omega]
     unfold Addr.add;split
     ·rename_i h0
      subst h0;obtain⟨b,o,s⟩:=a;simp only at hs;subst hs;rfl
     ·rfl
    rw[←this]
    exact q2
   refine .slice len _ a cap (fun j=>(q (j/5)).2.getD (j%5) .nilFunc) (fun hne=> ?_) h1 h2 (fun j x hj=>hat j (hx j x hj).1) (fun j x hj h=>h) (fun j x hj=> ?_)
   ·obtain⟨x,hx2⟩:=List.exists_mem_of_ne_nil _ hne
    obtain⟨j,hj⟩:=List.getElem?_of_mem hx2
    have:=(hx j x hj).1
    exact hspot (by omega)
   ·obtain⟨hj1,hj2⟩:=hx j x hj
    obtain⟨_,q1,_,q3⟩:=hq (j/5) (by omega)
    refine q3 _ _ _ hj2 ?_;rw[Ar,Ai (by omega)]
    rfl
end
end Go.Va
