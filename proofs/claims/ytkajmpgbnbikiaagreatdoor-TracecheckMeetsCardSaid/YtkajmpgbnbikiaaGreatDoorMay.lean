/- a part of the proof -/
import Derived.Test.YtkajmpgbnbikiaaGreatDoorMax
import Derived.Test.YtkajmpgbnbikiaaGreatDoorMao
import Derived.Test.YtkajmpgbnbikiaaGreatDoorMaw
import Derived.Test.YtkajmpgbnbikiaaGreatDoorMap
import Derived.Deep.Slices
set_option linter.all false
set_option maxHeartbeats 4000000
set_option maxRecDepth 100000
namespace Go.Va
open Int (natCast_add natCast_mul natCast_emod natCast_ediv natCast_pow)
open Go.Proofs
theorem X6(x:Value)(b:Bnd)(i:Nat)(hi:i≤1000)(cl:List D)(ys:List (List A))(h:BA Tryz.prog x 273 ([.c (.int .i64 (i+1:Nat)),.agg b.ds]++cl.map .c) ys):
  BA Tryz.prog x 275 [.agg b.ds,.c (.ref [.fn 273 cl]),.c (.ref [.int .i64 i])] ys:=by
 refine CV (T:=tb) Ah mixed Tryz.func275 rfl (by decide) (Af rfl) rfl rfl ?_;intro rest;unfold St.initY
 simp -implicitDefEqProofs[jJ,-natCast_add,-natCast_mul,-List.reduceReplicate];refine⟨by omega,.inr (.inr (.inl ⟨x,ys,rest,_,by simp[lk],?_,h,?_⟩))⟩
 ·simp[St.argsW,U.toA,toD]
 ·simp only[St.reachU,List.flatMap_cons,List.flatMap_nil,U.all,List.append_nil,List.cons_append,List.nil_append,DY,Bnd.reach_cs,D7,D6];simp -implicitDefEqProofs[jJ,-natCast_add,-natCast_mul,-List.reduceReplicate,St.backY,St.rest,BR]
theorem jag(l:List Fct)(i:Nat)(h:i<l.length):((l.flatMap Fct.ds).map C.d|>.drop (i*5)).take 5=l[i].ds.map .d:=by
 have:((l.flatMap Fct.ds).drop (i*5)).take 5=l[i].ds:=EO Fct.ds_len l i h
 rw[←List.map_drop,←List.map_take,this]
def FY(nb prem r addb:D):Nat→D
 |0=>nb
 |k+1=> .ref [.fn 273 [prem,r,FY nb prem r addb k,addb]]
def found1(E:Bnd→List (List A))(M:Nat→Bnd→List Bnd):Nat→Nat→Bnd→List (List A)
 |0,_,b=>E b
 |k+1,i,b=>(M i b).flatMap (found1 E M k (i+1))
theorem jiQ{a b:Bnd}(h:AT a=AT b):a=b:=by
 have h1:a.ds=b.ds:=by
  injection h with h _
  injection h
 have h2:a.v=b.v:=(List.map_inj_right (fun x y e=>by injection e)).1 h1
 cases a;cases b;simp only at h2;subst h2;rfl
noncomputable def Jt (F:Bnd→List (List A)) (y:List A):List (List A):=by
 classical
 exact if h: ∃c,AT c=y then F h.choose else []
theorem Tb(F:Bnd→List (List A))(c:Bnd):Jt F (AT c)=F c:=by
 have h: ∃d,AT d=AT c:=⟨c,rfl⟩
 unfold Jt;rw[dif_pos h,jiQ h.choose_spec]
theorem YH(F:Bnd→List (List A))(l:List Bnd):(l.map AT).flatMap (Jt F)=l.flatMap F:=by
 rw[List.flatMap_map]
 exact congrArg (fun g=>l.flatMap g) (funext fun c=>Tb F c)
theorem jjO(x:Value)(prem:List Fct)(r:Rul)(nb addb:D)(E:Bnd→List (List A))(M:Nat→Bnd→List Bnd)(hp:prem.length≤r.prem.length)(hl:prem.length≤1000)
  (hM: ∀i (h:i<prem.length) (b:Bnd),b.Ok→(∀x',BA Tryz.prog x' 274 [.agg (r.prem[i]'(by omega)).ds,.agg prem[i].ds,.agg b.ds,.c (.lit x')] ((M i b).map AT))∧ ∀c∈M i b,c.Ok)
  (k i:Nat) (b:Bnd) (hb:b.Ok) (hi:i+k+1=prem.length)
  (ih: ∀c:Bnd,c.Ok→BA Tryz.prog x 273 [.c (.int .i64 (i+1:Nat)),.agg c.ds,.c (.ref [.slice prem.length (prem.flatMap Fct.ds)]),.c (.ref r.ds),.c (FY nb (.ref [.slice prem.length (prem.flatMap Fct.ds)]) (.ref r.ds) addb k),.c addb] (found1 E M k (i+1) c)):
  BA Tryz.prog x 273 [.c (.int .i64 i),.agg b.ds,.c (.ref [.slice prem.length (prem.flatMap Fct.ds)]),.c (.ref r.ds),.c (FY nb (.ref [.slice prem.length (prem.flatMap Fct.ds)]) (.ref r.ds) addb (k+1)),.c addb] (found1 E M (k+1) i b):=by
 have q:=hM i (by omega) b hb
 have hi1:i<prem.length:=by omega
 have hi2:i<r.prem.length:=by omega
 have g0:=Lp r.prem i hi2;have g1:=jag prem i hi1;refine CV (T:=tb) Ah mixed Tryz.func273 rfl (by decide) (Af rfl) rfl rfl ?_;intro rest;unfold St.initY
 simp only[Rul.ds,BS];simp -implicitDefEqProofs[jJ,-natCast_add,-natCast_mul,-List.reduceReplicate,hi1];refine At (Ad [0,1,0,7,15,0,0,96,224,0,0,2047]) [.any [] [] (Ap [[3],[17],[6],[18,19],[20],[2],[6],[22,23],[24],[7],[4,6]]),.one] (by rfl) ?_
 simp -implicitDefEqProofs[jJ,-natCast_add,-natCast_mul,-List.reduceReplicate,g0,g1];refine⟨hi2,by omega,hi1,by omega,.inr (.inr (.inr (.inl ⟨rfl,x,(M i b).map AT,rest,[.agg (r.prem[i]).ds,.agg prem[i].ds,.agg b.ds],275,[FY nb (.ref [.slice prem.length (prem.flatMap Fct.ds)]) (.ref r.ds) addb (k+1),.ref [.int .i64 i]],Jt (found1 E M k (i+1)),?_,?_,fun x'=>q.1 x',?_,?_⟩)))⟩
 ·rw[YH];simp[lk,found1]
 ·simp only[St.reachU,List.flatMap_cons,List.flatMap_nil,U.all,List.append_nil,List.cons_append,List.nil_append,DY,Bnd.reach_cs,D7,D6];simp -implicitDefEqProofs[jJ,-natCast_add,-natCast_mul,-List.reduceReplicate,U.toA,toD,Rul.ds,BS,Bu,C.id?];rfl
 ·intro y hy;obtain⟨c,hc,rfl⟩:=jzk.1 hy;rw[Tb];exact X6 x c i (by omega) _ _ (ih c (q.2 c hc))
 ·simp only[St.reachU,List.flatMap_cons,List.flatMap_nil,U.all,List.append_nil,List.cons_append,List.nil_append,DY,Bnd.reach_cs,D7,D6];simp -implicitDefEqProofs[jJ,-natCast_add,-natCast_mul,-List.reduceReplicate,St.backY,St.rest,BR,Bu,C.id?]
def GO(b:Bnd)(p:Pat):Fct:=⟨p.kind,BJ b p.letters,false,if p.kind=9 then limbs p.n.toNat else [],if p.kind=9 then limbs 1 else []⟩
def Br(l:List Grd):D:= .slice l.length (l.flatMap Grd.ds)
def He(b:Bnd)(gl:List Grd)(p:Pat):List A:=[.agg (GO b p).ds,.c (Br gl)]
def EC(b:Bnd)(gl:List Grd)(l:List Pat)(i:Nat):List (List A):=(l.drop i).map (He b gl)
theorem jbC(b:Bnd)(gl:List Grd)(l:List Pat)(i:Nat)(h:i<l.length):EC b gl l i=He b gl l[i]::EC b gl l (i+1):=by
 unfold EC;rw[AX h];rfl
theorem jaW(b:Bnd)(gl:List Grd)(l:List Pat):EC b gl l l.length=[]:=by simp[EC]
def Eb(r:Rul)(b:Bnd):List (List A):=if GR b r.guards then EC b (guardsL b r.guards) r.concl 0 else []
theorem ji3(x:Value)(prem:List Fct)(r:Rul)(nb:D)(hl:prem.length≤1000)(hc:r.concl.length≤1000)(hg:r.guards.length≤1000)(hgo: ∀p∈r.guards,p.Ok)(hco: ∀p∈r.concl,p.Ok∧0≤p.n∧p.n≤1000)
  (b:Bnd) (hb:b.Ok):
  BA Tryz.prog x 273 [.c (.int .i64 (prem.length:Nat)),.agg b.ds,.c (.ref [.slice prem.length (prem.flatMap Fct.ds)]),.c (.ref r.ds),.c nb,.c (.ref [.lit x])] (Eb r b):=by
 have q0:=(Yn b hb r.guards hgo hg).dat;simp only[BS,R.dat,RU.dat,RC.dat,List.map_cons,List.map_nil]at q0;rw[AH (by simp)]at q0
 unfold Eb;refine CV (T:=tb) Ah mixed Tryz.func273 rfl (by decide) (Af rfl) rfl rfl ?_;intro rest;unfold St.initY
 simp only[Rul.ds,BS];simp -implicitDefEqProofs[jJ,-natCast_add,-natCast_mul,-List.reduceReplicate]
 (first|refine Ab q0 ?_|refine Aa q0 ?_)
 rw[Bnd.flatMap_reach b _ (fun c hc=>by simp only[hc])]
 cases hgb:GR b r.guards with
 |false=>
  simp -implicitDefEqProofs[jJ,-natCast_add,-natCast_mul,-List.reduceReplicate,BR]
 |true=>
  simp -implicitDefEqProofs[jJ,-natCast_add,-natCast_mul,-List.reduceReplicate];generalize guardsL b r.guards=gl;refine AF (fun i:Nat=>⟨[(41,vI .i64 i),(40,vI .i64 r.concl.length),(39,vC (.d (.slice r.concl.length (r.concl.flatMap Pat.ds)))),(8,vC (.d (.slice gl.length (gl.flatMap Grd.ds)))),(7,vC (.ptr 7 0)),(5,vC (.d (.ref [.lit x]))),(YS,.tr x (EC b gl r.concl i++rest))],[(7,.box b.cs)]⟩)
   (fun i=>i≤r.concl.length) (fun i=>r.concl.length - i) 0 (by simp[Aw,lk,St.le,vI,vC,YS]) (by omega) ?_
  rintro i hi
  by_cases h:i<r.concl.length
  ·have g:=Lp r.concl i h;have hpi:=hco r.concl[i] (AD h);have b1:i*3+3≤r.concl.length*3:=by omega
   have q1:=(Ol b hb r.concl[i].letters hpi.1.2.2 hpi.1.2.1).dat;simp only[R.dat,RU.dat,RC.dat]at q1;rw[AH (by simp)]at q1
   rw[jbC b gl r.concl i h]
   simp -implicitDefEqProofs[jJ,-natCast_add,-natCast_mul,-List.reduceReplicate,h,g];refine⟨by omega,?_⟩
   refine At (Ad [0,1,0,0,8,28,63,0,255]) [.any [] [12] [⟨0,[11],[12],[12],[]⟩,⟨0,[45],[12],[12],[]⟩,⟨0,[7],[12],[12],[]⟩,⟨0,[11],[12],[12],[]⟩,⟨0,[48],[12],[12],[]⟩,⟨0,[47,49],[12],[12],[]⟩,⟨0,[46,50],[12],[12],[]⟩,⟨1,[],[],[],[]⟩],.one] (by rfl) ?_
   simp -implicitDefEqProofs[jJ,-natCast_add,-natCast_mul,-List.reduceReplicate]
   (first|refine Ab q1 ?_|refine Aa q1 ?_)
   simp -implicitDefEqProofs[jJ,-natCast_add,-natCast_mul,-List.reduceReplicate];refine⟨fun h9=> ?_,fun h9=> ?_⟩
   ·obtain⟨n,hn⟩: ∃n:Nat,r.concl[i].n=(n:Int):=⟨r.concl[i].n.toNat,by omega⟩
    have q2:=Nn n (by omega)
    rw[←hn]at q2
    (first|refine Ab q2 ?_|refine Aa q2 ?_)
    simp -implicitDefEqProofs[jJ,-natCast_add,-natCast_mul,-List.reduceReplicate];refine⟨He b gl r.concl[i],EC b gl r.concl (i+1)++rest,by simp[lk],?_,?_⟩
    ·simp -implicitDefEqProofs[jJ,-natCast_add,-natCast_mul,-List.reduceReplicate,St.argsW,U.toA,He,GO,h9,hn,Br,toD]
    ·simp -implicitDefEqProofs[jJ,-natCast_add,-natCast_mul,-List.reduceReplicate,St.backY,St.rest];refine⟨by omega,i+1,⟨rfl,rfl⟩,by omega,by omega⟩
   ·refine⟨He b gl r.concl[i],EC b gl r.concl (i+1)++rest,by simp[lk],?_,?_⟩
    ·simp -implicitDefEqProofs[jJ,-natCast_add,-natCast_mul,-List.reduceReplicate,St.argsW,U.toA,He,GO,h9,Br,toD];rfl
    ·simp -implicitDefEqProofs[jJ,-natCast_add,-natCast_mul,-List.reduceReplicate,St.backY,St.rest];refine⟨by omega,i+1,⟨rfl,rfl⟩,by omega,by omega⟩
  ·have e:i=r.concl.length:=by omega
   subst e;rw[jaW];simp -implicitDefEqProofs[jJ,-natCast_add,-natCast_mul,-List.reduceReplicate,h,BR]
theorem NZ(x:Value)(prem:List Fct)(r:Rul)(nb:D)(M:Nat→Bnd→List Bnd)(hp:prem.length≤r.prem.length)(hl:prem.length≤1000)(hc:r.concl.length≤1000)(hg:r.guards.length≤1000)(hgo: ∀p∈r.guards,p.Ok)(hco: ∀p∈r.concl,p.Ok∧0≤p.n∧p.n≤1000)
  (hM: ∀i (h:i<prem.length) (b:Bnd),b.Ok→(∀x',BA Tryz.prog x' 274 [.agg (r.prem[i]'(by omega)).ds,.agg prem[i].ds,.agg b.ds,.c (.lit x')] ((M i b).map AT))∧ ∀c∈M i b,c.Ok):
  ∀(k i:Nat) (b:Bnd),b.Ok→i+k=prem.length→
  BA Tryz.prog x 273 [.c (.int .i64 (i:Nat)),.agg b.ds,.c (.ref [.slice prem.length (prem.flatMap Fct.ds)]),.c (.ref r.ds),.c (FY nb (.ref [.slice prem.length (prem.flatMap Fct.ds)]) (.ref r.ds) (.ref [.lit x]) k),.c (.ref [.lit x])] (found1 (Eb r) M k i b)
 |0,i,b,hb,hi=>by
  obtain rfl:i=prem.length:=by omega
  exact ji3 x prem r nb hl hc hg hgo hco b hb
 |k+1,i,b,hb,hi=>jjO x prem r nb _ (Eb r) M hp hl hM k i b hb (by omega) fun c hc2=>NZ x prem r nb M hp hl hc hg hgo hco hM k (i+1) c hc2 (by omega)
theorem jkm(x:Value)(prem:List Fct)(r:Rul)(M:Nat→Bnd→List Bnd)(hp:prem.length≤r.prem.length)(hl:prem.length≤3)(hc:r.concl.length≤1000)(hg:r.guards.length≤1000)(hgo: ∀p∈r.guards,p.Ok)(hco: ∀p∈r.concl,p.Ok∧0≤p.n∧p.n≤1000)
  (hM: ∀i (h:i<prem.length) (b:Bnd),b.Ok→(∀x',BA Tryz.prog x' 274 [.agg (r.prem[i]'(by omega)).ds,.agg prem[i].ds,.agg b.ds,.c (.lit x')] ((M i b).map AT))∧ ∀c∈M i b,c.Ok) (b0:Bnd) (h0:b0.v=List.replicate 78 0):
  BA Tryz.prog x 197 [.agg r.ds,.c (.slice prem.length (prem.flatMap Fct.ds)),.c (.lit x)] (found1 (Eb r) M prem.length 0 b0):=by
 have q:=fun nb=>NZ x prem r nb M hp (by omega) hc hg hgo hco hM prem.length 0 b0 (by unfold Bnd.Ok;rw[h0];intro y hy;have:=List.eq_of_mem_replicate hy;omega) (by omega)
 have e:List.replicate 78 (C.d (D.int .i64 0))=b0.cs:=by unfold Bnd.cs;rw[h0];rfl
 generalize found1 (Eb r) M prem.length 0 b0=ys at*;clear hM hco hgo hp hc hg;refine CV (T:=tb) Ah mixed Tryz.func197 rfl (by decide) (Af rfl) rfl rfl ?_;intro rest;unfold St.initY
 simp only[Rul.ds,BS]at*;simp -implicitDefEqProofs[jJ,-natCast_add,-natCast_mul,-List.reduceReplicate,e];obtain hl0|hl0|hl0|hl0:prem.length=0∨prem.length=1∨prem.length=2∨prem.length=3:=by omega
 all_goals
  rw[hl0]at q ⊢
  have q:=q (FY (.ref [.fn 273 [.any,.any,.any,.any]]) (.ref [.slice prem.length (prem.flatMap Fct.ds)]) (.ref [.str (bs r.name),.slice r.prem.length (r.prem.flatMap Pat.ds),.slice r.concl.length (r.concl.flatMap Pat.ds),.slice r.guards.length (r.guards.flatMap Pat.ds),.int .i64 r.count,r.derive]) (.ref [.lit x]) (3 - prem.length));rw[hl0]at q;simp only[FY,Nat.sub_zero,Nat.reduceSub]at q;refine .inr (.inr (.inl ⟨x,_,rest,_,by simp[lk],?_,q,?_⟩))
  ·simp -implicitDefEqProofs[jJ,-natCast_add,-natCast_mul,-List.reduceReplicate,St.reachU,U.all,Bu,C.id?,St.argsW,U.toA,toD,FY]
  ·simp -implicitDefEqProofs[jJ,-natCast_add,-natCast_mul,-List.reduceReplicate,St.backY,St.rest,BR]
end Go.Va
namespace Go.Va
open Go.Proofs
structure Fnd where
 fact:Fct
 grds:List Grd
def Fnd.ds(x:Fnd):List D:=[.int .i64 x.fact.kind,intsD x.fact.args,.bool x.fact.neg,Ac x.fact.abs,Ac x.fact.den,Br x.grds]
theorem Fnd.ds_len(x:Fnd):x.ds.length=6:=rfl
@[simp high]theorem MZ(l:List Fnd):(l.flatMap Fnd.ds).length=l.length*6:=DG Fnd.ds_len l
def D5(g:Fct)(l:List Fct):Bool:=l.any fun a=>decide (BC g a=0)
def Ca(g:Fct):List Fct→Nat→Int
 |[],_=> -1
 |a::l,i=>if BC g a=0 then i else Ca g l (i+1)
theorem Qd(g:Fct): ∀(l:List Fct) (i:Nat),0≤Ca g l i↔D5 g l=true
 |[],i=>by simp[Ca,D5]
 |a::l,i=>by
  unfold Ca;by_cases h:BC g a=0
  ·rw[if_pos h];simp[h,D5]
  ·rw[if_neg h,Qd g l (i+1)];simp[h,D5]
theorem Px{g:Fct}{l:List Fct}{i:Nat}(h:i<l.length):Ca g (l.drop i) i=if BC g l[i]=0 then (i:Int) else Ca g (l.drop (i+1)) (i+1):=by
 rw[AX h]
 rfl
theorem LV(g:Fct): ∀(l:List Fct) (i:Nat),Ca g l i= -1∧(∀a∈l,BC g a≠0)∨ ∃k,∃h:k<l.length,Ca g l i=((i+k:Nat):Int)∧BC g l[k]=0
 |[],i=> .inl ⟨rfl,by simp⟩
 |a::l,i=>by
  unfold Ca;by_cases h:BC g a=0
  ·rw[if_pos h];exact .inr ⟨0,by simp,by simp,by simpa using h⟩
  ·rw[if_neg h]
   rcases LV g l (i+1)with⟨h1,h2⟩|⟨k,hk,h1,h2⟩
   ·exact .inl ⟨h1,fun b hb=>by rcases jzn.1 hb with rfl|hb;exact h;exact h2 b hb⟩
   ·exact .inr ⟨k+1,by simpa using hk,by rw[h1];omega,by simpa using h2⟩
def Eg:List Grd→List Grd→Int
 |[],[]=>0
 |[],_::_=> -1
 |_::_,[]=>1
 |a::x,b::y=>if cmpG a b≠0 then cmpG a b else Eg x y
def Ii(a b:List Grd):Bool:=if a.length≠b.length then decide (a.length<b.length) else decide (Eg a b<0)
def C8(nl:List Fct)(l:List Fnd)(f:Fct)(g:List Grd):List Fnd:=
 if f.kind=0∨E5 f=true∨D5 f nl=true then l else
 let i:=Ca f (l.map Fnd.fact) 0
 if i<0 then l++[⟨f,g⟩] else
 match l[i.toNat]? with
 |none=>l
 |some x=>if Ii g x.grds then l.set i.toNat ⟨x.fact,g⟩ else l
def GV(nl:List Fct)(l:List Fnd)(f:Fct)(g:List Grd):List Fnd:=C8 nl l (normF f) g
structure FndOk (l:List Fnd):Prop where
 rt: ∀x∈l,x.fact.Rt
 sh: ∀x∈l,x.grds.length≤10∧ ∀g∈x.grds,g.Short
 nd:l.Pairwise fun x y=>x.fact≠y.fact
theorem FndOk.nil:FndOk []:=⟨by simp,by simp,.nil⟩
theorem Iy{f:Fct}(hm:f.Mild)(h:(normF f).kind≠0):(normF f).Rt:=by
 unfold normF at h ⊢;split
 ·rename_i h1
  exact LP ⟨h1,hm⟩
 ·rename_i h1
  rw[if_neg h1]at h
  exact absurd rfl h
theorem Wz{nl:List Fct}{l:List Fnd}{f:Fct}{g:List Grd}(hl:FndOk l)(hf:f.kind≠0→f.Rt)(hg:g.length≤10∧ ∀x∈g,x.Short):FndOk (C8 nl l f g):=by
 unfold C8;split
 ·exact hl
 ·rename_i h0
  have hrt:f.Rt:=hf fun h=>h0 (.inl h)
  rcases LV f (l.map Fnd.fact) 0 with⟨h1,h2⟩|⟨k,hk,h1,h2⟩
  ·simp only[h1];rw[if_pos (by omega)]
   refine⟨fun x hx=> ?_,fun x hx=> ?_,?_⟩
   ·rcases List.mem_append.1 hx with hx|hx
    ·exact hl.rt x hx
    ·rw[List.mem_singleton]at hx;subst hx;exact hrt
   ·rcases List.mem_append.1 hx with hx|hx
    ·exact hl.sh x hx
    ·rw[List.mem_singleton]at hx;subst hx;exact hg
   ·rw[List.pairwise_append]
    refine⟨hl.nd,List.pairwise_singleton _ _,fun x hx y hy=> ?_⟩
    rw[List.mem_singleton]at hy
    subst hy;intro e;have:=h2 x.fact (jzk.2 ⟨x,hx,rfl⟩);rw[e]at this;exact this ((K0 hrt hrt).2 rfl)
  ·simp only[h1];rw[if_neg (by omega)]
   rw[List.length_map]at hk
   have e1:((0+k:Nat):Int).toNat=k:=by omega
   rw[e1,Am hk]
   simp only;split
   ·have hset: ∀x∈l.set k ⟨l[k].fact,g⟩,x∈l∨x=⟨l[k].fact,g⟩:=fun x hx=>List.mem_or_eq_of_mem_set hx
    refine⟨fun x hx=> ?_,fun x hx=> ?_,?_⟩
    ·rcases hset x hx with hx|rfl
     ·exact hl.rt x hx
     ·exact hl.rt l[k] (AD hk)
    ·rcases hset x hx with hx|rfl
     ·exact hl.sh x hx
     ·exact hg
    ·have h3:(l.map Fnd.fact).Pairwise (· ≠ ·):=by rw[List.pairwise_map];exact hl.nd
     have h4:(l.set k ⟨l[k].fact,g⟩).map Fnd.fact=l.map Fnd.fact:=by
      rw[List.map_set]
      apply List.ext_getElem (by simp)
      intro j h5 h6;rw[List.getElem_set];split
      ·rename_i e;subst e;simp
      ·rfl
     rw[←h4,List.pairwise_map]at h3
     exact h3
   ·exact hl
theorem jeJ(nl:List Fct)(l:List Fnd)(f:Fct)(g:List Grd):(C8 nl l f g).length≤l.length+1:=by
 unfold C8;split
 ·omega
 ·simp only;split
  ·simp
  ·split
   ·omega
   ·split<;>simp
end Go.Va
namespace Go.Va
open Go.Proofs Go.ChangeShapes Go.WideShapes Go.ChangeAt Go.RowKit
section
variable {H:Type} {enc:TypeId×Value→H} {w:World} {base:Nat} {sp:Nat→Bool} {hd:Bool}
theorem jbO{fuel:Nat}{cs:List Value}{x:DataW H×List MemPlace}(hlen:cs.length=5)(h:DataW.trod enc Tryz.prog w base sp hd fuel 51 cs=some x):
  ∃f:Fct,InFact f∧ ∀(j:Nat) (x:D) (u:Value),f.ds[j]? =some x→cs[j]? =some u→RepD w Z0 x u:=by
 obtain⟨xs,n,_,_,_,_,hf⟩:=DataW.trod_struct Tryz.underlying51 h
 have hc3:Tryz.prog.cellsOf 3=1:=by kernel_rfl
 have hc22:Tryz.prog.cellsOf 43=1:=by kernel_rfl
 have hc28:Tryz.prog.cellsOf 49=3:=by kernel_rfl
 have hc26:Tryz.prog.cellsOf 47=2:=by kernel_rfl
 have hc24:Tryz.prog.cellsOf 45=1:=by kernel_rfl
 have hc4:Tryz.prog.cellsOf 4=1:=by kernel_rfl
 obtain⟨c0,c1,c2,c3,c4,rfl⟩: ∃c0 c1 c2 c3 c4,cs=[c0,c1,c2,c3,c4]:=by
  match cs,hlen with
  |[c0,c1,c2,c3,c4],_=>exact⟨c0,c1,c2,c3,c4,rfl⟩
 have some_of: ∀{α:Type} {o:Option α} {l:List α} {i:Nat},o=l[i]? →i<l.length→ ∃y,o=some y:=fun {α o l i} h hi=>⟨l[i],by rw[h,Am hi]⟩
 have hx3:xs.length=3:=by assumption
 obtain⟨y0,g0⟩:=some_of (hf 0 _ rfl) (by omega)
 obtain⟨y1,g1⟩:=some_of (hf 1 _ rfl) (by omega)
 obtain⟨y2,g2⟩:=some_of (hf 2 _ rfl) (by omega)
 simp only[hc3,hc22,hc28,List.getElem_toArray,List.getElem_cons_zero,List.getElem_cons_succ,List.drop_zero,List.take_succ_cons,List.take_zero,List.drop_succ_cons]at g0 g1 g2;obtain⟨k,e0,_,_⟩:=DataW.trod_int Tryz.underlying3 g0;obtain⟨l,u1,e1,r1⟩:=Md g1;obtain⟨ys,n2,_,_,_,hy2,hf2⟩:=DataW.trod_struct Tryz.underlying49 g2;have hy2':ys.length=2:=hy2;obtain⟨z0,k0⟩:=some_of (hf2 0 _ rfl) (by omega)
 obtain⟨z1,k1⟩:=some_of (hf2 1 _ rfl) (by omega)
 simp only[hc26,hc24,List.getElem_toArray,List.getElem_cons_zero,List.getElem_cons_succ,List.drop_zero,List.take_succ_cons,List.take_zero,List.drop_succ_cons]at k0 k1;obtain⟨D4,u4,o4,e4,r4⟩:=I9 k1;obtain⟨zs,n3,_,_,_,hz2,hf3⟩:=DataW.trod_struct Tryz.underlying47 k0;have hz2':zs.length=2:=hz2;obtain⟨q0,j0⟩:=some_of (hf3 0 _ rfl) (by omega)
 obtain⟨q1,j1⟩:=some_of (hf3 1 _ rfl) (by omega)
 simp only[hc4,hc24,List.getElem_toArray,List.getElem_cons_zero,List.getElem_cons_succ,List.drop_zero,List.take_succ_cons,List.take_zero,List.drop_succ_cons]at j0 j1;obtain⟨b,e2,_⟩:=DataW.trod_bool Tryz.underlying4 j0;obtain⟨D3,u3,o3,e3,r3⟩:=I9 j1;cases e0;cases e1;cases e2;cases e3;cases e4;refine⟨⟨k,l,b,D3,D4⟩,⟨o3,o4⟩,fun j x u hx hu=> ?_⟩
 match j,hx,hu with
 |0,hx,hu=>cases hx;cases hu;exact .int _ _
 |1,hx,hu=>cases hx;cases hu;exact r1
 |2,hx,hu=>cases hx;cases hu;exact .bool _
 |3,hx,hu=>cases hx;cases hu;exact r3
 |4,hx,hu=>cases hx;cases hu;exact r4
end
end Go.Va
namespace Go.Va
open Int (natCast_add natCast_mul natCast_emod natCast_ediv natCast_pow)
open Go.Proofs
def DV(l:List Fnd):D:= .slice l.length (l.flatMap Fnd.ds)
@[simp]theorem jkQ(l:List Fnd):lenC (.d (DV l))=some l.length:=rfl
@[simp]theorem jkD(l:List Fnd):D.flat (DV l)=false:=rfl
@[simp]theorem jk5(l:List Grd):D.flat (Br l)=false:=rfl
@[simp]theorem jkM(l:List Grd):lenC (.d (Br l))=some l.length:=rfl
@[simp]theorem jkG(h:List (Nat×Blk))(i:Int)(l:List Fnd):idxSl h 6 i (.d (DV l))=if 0≤i∧i<l.length then some (.d (.ref ((l.drop i.toNat).flatMap Fnd.ds))) else none:=by
 unfold DV idxSl;simp only[MZ,and_true,DU Fnd.ds_len]
@[simp]theorem jkP(h:List (Nat×Blk))(i:Int)(l:List Grd):idxSl h 2 i (.d (Br l))=if 0≤i∧i<l.length then some (.d (.ref ((l.drop i.toNat).flatMap Grd.ds))) else none:=by
 unfold Br idxSl;simp only[Zo,and_true,DU Grd.ds_len]
theorem Ro{l:List Fnd}{i:Nat}(h:i<l.length):(l.drop i).flatMap Fnd.ds= .int .i64 l[i].fact.kind::intsD l[i].fact.args:: .bool l[i].fact.neg::Ac l[i].fact.abs::Ac l[i].fact.den::Br l[i].grds::(l.drop (i+1)).flatMap Fnd.ds:=by
 rw[AX h];rfl
theorem Pz{l:List Grd}{i:Nat}(h:i<l.length):(l.drop i).flatMap Grd.ds= .int .i64 l[i].kind::intsD l[i].args::(l.drop (i+1)).flatMap Grd.ds:=by
 rw[AX h];rfl
theorem UJ(g f:Fct)(hg:g.Rt)(hf:f.Rt):CallsF Tryz.prog 192 [.agg f.ds,.c (.ref g.ds)] (.u (.c (.d (.bool (decide (BC g f=0)))))):=by
 have k1:=Jl g f hg.mild hf.mild hg.num hf.num;clear hg hf;simp only[Fct.ds]at*;refine Ak (T:=tb) Ah mixed Tryz.func192 rfl (by decide) (Af rfl) rfl ?_;unfold St.init
 simp -implicitDefEqProofs[jJ,-natCast_add,-natCast_mul]
 (first|refine Ab k1 ?_|refine Aa k1 ?_)
 simp -implicitDefEqProofs[jJ,-natCast_add,-natCast_mul]
theorem jjd(g:Fct)(l:List Fct)(hg:g.Rt)(hl: ∀f∈l,f.Rt)(hn:l.length≤1099511627776):CallsF Tryz.prog 119 [.c (Cn l),.c (.fn 192 [.ref g.ds])] (.u (.c (.d (.int .i64 (Ca g l 0))))):=by
 have k:=fun f hf=>UJ g f hg (hl f hf)
 clear hg hl;generalize hr:D.ref g.ds=rg at*;clear hr;refine Ak (T:=tb) Ah mixed Tryz.func119 rfl (by decide) (Af rfl) rfl ?_;unfold St.init
 simp -implicitDefEqProofs[jJ,-natCast_add,-natCast_mul];refine AF (fun i:Nat=>⟨[(8,vI .i64 i),(7,vI .i64 l.length),(0,vC (.d (Cn l))),(1,vC (.d (.fn 192 [rg])))],[]⟩) (fun i=>i≤l.length∧Ca g (l.drop i) i=Ca g l 0) (fun i=>l.length - i) 0 (by simp) ⟨by omega,rfl⟩ ?_
 rintro i ⟨h1,h2⟩
 by_cases h:i<l.length
 ·have e:=Px (g:=g) h;have k:=k l[i] (AD h);have e2:=P0 h;simp only[Fct.ds]at k;by_cases h0:BC g l[i]=0
  ·rw[if_pos h0]at e
   simp -implicitDefEqProofs[jJ,-natCast_add,-natCast_mul,h,e2]
   (first|refine Ab k ?_|refine Aa k ?_)
   simp -implicitDefEqProofs[jJ,-natCast_add,-natCast_mul,h0];rw[←h2,e]
  ·rw[if_neg h0]at e
   simp -implicitDefEqProofs[jJ,-natCast_add,-natCast_mul,h,e2]
   (first|refine Ab k ?_|refine Aa k ?_)
   simp -implicitDefEqProofs[jJ,-natCast_add,-natCast_mul,h0];exact⟨by omega,⟨by omega,by rw[←e,h2]⟩,by omega⟩
 ·have:i=l.length:=by omega
  subst this;rw[List.drop_length]at h2;simp -implicitDefEqProofs[jJ,-natCast_add,-natCast_mul];exact h2
theorem Qu(g:Fct)(l:List Fct)(hg:g.Rt)(hl: ∀f∈l,f.Rt)(hn:l.length≤1099511627776):CallsF Tryz.prog 58 [.c (Cn l),.c (.fn 192 [.ref g.ds])] (.u (.c (.d (.bool (D5 g l))))):=by
 have k:=jjd g l hg hl hn;have e:=Qd g l 0;clear hg hl;generalize hr:D.ref g.ds=rg at*;clear hr;refine Ak (T:=tb) Ah mixed Tryz.func58 rfl (by decide) (Af rfl) rfl ?_;unfold St.init
 simp -implicitDefEqProofs[jJ,-natCast_add,-natCast_mul]
 (first|refine Ab k ?_|refine Aa k ?_)
 simp -implicitDefEqProofs[jJ,-natCast_add,-natCast_mul,e]
theorem ZI(g:Fct)(x:Fnd)(hg:g.Rt)(hx:x.fact.Rt):CallsF Tryz.prog 194 [.agg x.ds,.c (.ref [.fn 192 [.ref g.ds]])] (.u (.c (.d (.bool (decide (BC g x.fact=0)))))):=by
 have k1:=UJ g x.fact hg hx;clear hg hx;generalize hr:D.ref g.ds=rg at*;clear hr;simp only[Fct.ds,Fnd.ds]at*;refine Ak (T:=tb) Ah mixed Tryz.func194 rfl (by decide) (Af rfl) rfl ?_;unfold St.init
 simp -implicitDefEqProofs[jJ,-natCast_add,-natCast_mul]
 (first|refine Ab k1 ?_|refine Aa k1 ?_)
 simp -implicitDefEqProofs[jJ,-natCast_add,-natCast_mul]
theorem QI(g:Fct)(l:List Fnd)(hg:g.Rt)(hl: ∀x∈l,x.fact.Rt)(hn:l.length≤1099511627776):CallsF Tryz.prog 193 [.c (DV l),.c (.fn 194 [.ref [.fn 192 [.ref g.ds]]])] (.u (.c (.d (.int .i64 (Ca g (l.map Fnd.fact) 0))))):=by
 have k:=fun f hf=>ZI g f hg (hl f hf)
 clear hg hl;generalize hr:D.ref [D.fn 192 [.ref g.ds]]=rg at*;clear hr;refine Ak (T:=tb) Ah mixed Tryz.func193 rfl (by decide) (Af rfl) rfl ?_;unfold St.init
 simp -implicitDefEqProofs[jJ,-natCast_add,-natCast_mul];refine AF (fun i:Nat=>⟨[(8,vI .i64 i),(7,vI .i64 l.length),(0,vC (.d (DV l))),(1,vC (.d (.fn 194 [rg])))],[]⟩) (fun i=>i≤l.length∧Ca g ((l.map Fnd.fact).drop i) i=Ca g (l.map Fnd.fact) 0) (fun i=>l.length - i) 0 (by simp) ⟨by omega,rfl⟩ ?_
 rintro i ⟨h1,h2⟩
 by_cases h:i<l.length
 ·have e:=Px (g:=g) (l:=l.map Fnd.fact) (i:=i) (by simpa using h)
  rw[List.getElem_map]at e
  have k:=k l[i] (AD h);have e2:=Ro h;simp only[Fnd.ds]at k;by_cases h0:BC g l[i].fact=0
  ·rw[if_pos h0]at e
   simp -implicitDefEqProofs[jJ,-natCast_add,-natCast_mul,h,e2]
   (first|refine Ab k ?_|refine Aa k ?_)
   simp -implicitDefEqProofs[jJ,-natCast_add,-natCast_mul,h0];rw[←h2,e]
  ·rw[if_neg h0]at e
   simp -implicitDefEqProofs[jJ,-natCast_add,-natCast_mul,h,e2]
   (first|refine Ab k ?_|refine Aa k ?_)
   simp -implicitDefEqProofs[jJ,-natCast_add,-natCast_mul,h0];exact⟨by omega,⟨by omega,by rw[←e,h2]⟩,by omega⟩
 ·have:i=l.length:=by omega
  subst this;rw[Cg (by simp)]at h2
  simp -implicitDefEqProofs[jJ,-natCast_add,-natCast_mul];exact h2
theorem jdI(a b:List Grd)(ha: ∀g∈a,g.Short)(hb: ∀g∈b,g.Short)(hal:a.length≤1000)(hbl:b.length≤1000):
  CallsF Tryz.prog 271 [.c (Br a),.c (Br b),.c (.fn 272 [])] (.u (.c (.d (.int .i64 (Eg a b))))):=by
 have k:=fun x hx y hy=>Mt x y (ha x hx) (hb y hy)
 simp only[Grd.ds]at k;clear ha hb;refine Ak (T:=tb) Ah mixed Tryz.func271 rfl (by decide) (Af rfl) rfl ?_;unfold St.init
 simp -implicitDefEqProofs[jJ,-natCast_add,-natCast_mul];refine AF (fun i:Nat=>⟨[(13,vI .i64 i),(12,vI .i64 a.length),(11,vC (.d (Br a))),(0,vC (.d (Br a))),(1,vC (.d (Br b))),(2,vC (.d (.fn 272 [])))],[]⟩) (fun i=>i≤a.length∧i≤b.length∧Eg (a.drop i) (b.drop i)=Eg a b) (fun i=>a.length - i) 0 (by simp) ⟨by omega,by omega,rfl⟩ ?_
 rintro i ⟨h1,h1b,h2⟩
 by_cases h:i<a.length
 ·have ea:=Pz h;by_cases hB:i<b.length
  ·have eb:=Pz hB;have k:=k a[i] (AD h) b[i] (AD hB);have e:Eg (a.drop i) (b.drop i)=if cmpG a[i] b[i]≠0 then cmpG a[i] b[i] else Eg (a.drop (i+1)) (b.drop (i+1)):=by
    rw[AX h,AX hB];rfl
   rw[e]at h2
   have nb: ¬b.length≤i:=by omega
   generalize cmpG a[i] b[i]=r at*;by_cases h0:r=0
   ·rw[if_neg (by simp[h0])]at h2
    simp -implicitDefEqProofs[jJ,-natCast_add,-natCast_mul,h,ea,hB,eb,nb]
    (first|refine Ab k ?_|refine Aa k ?_)
    simp -implicitDefEqProofs[jJ,-natCast_add,-natCast_mul,h0];exact⟨by omega,⟨by omega,by omega,h2⟩,by omega⟩
   ·rw[if_pos h0]at h2
    subst h2;simp -implicitDefEqProofs[jJ,-natCast_add,-natCast_mul,h,ea,hB,eb,nb]
    (first|refine Ab k ?_|refine Aa k ?_)
    simp -implicitDefEqProofs[jJ,-natCast_add,-natCast_mul,h0]
  ·have hbi:b.length=i:=by omega
   have e:Eg a b=1:=by
    rw[←h2,AX h,Cg (by omega:b.length≤i)];rfl
   have nb:b.length≤i:=by omega
   simp -implicitDefEqProofs[jJ,-natCast_add,-natCast_mul,h,ea,nb,e]
 ·have hi:i=a.length:=by omega
  by_cases hB:a.length<b.length
  ·have e:Eg a b= -1:=by
    rw[←h2,Cg (by omega:a.length≤i),AX (by omega:i<b.length)];rfl
   simp -implicitDefEqProofs[jJ,-natCast_add,-natCast_mul,h,hB,e]
  ·have e:Eg a b=0:=by
    rw[←h2,Cg (by omega:a.length≤i),Cg (by omega:b.length≤i)];rfl
   simp -implicitDefEqProofs[jJ,-natCast_add,-natCast_mul,h,hB,e]
theorem jkk(a b:List Grd)(ha: ∀g∈a,g.Short)(hb: ∀g∈b,g.Short)(hal:a.length≤1000)(hbl:b.length≤1000):
  CallsF Tryz.prog 195 [.c (Br a),.c (Br b)] (.u (.c (.d (.bool (Ii a b))))):=by
 have k:=jdI a b ha hb hal hbl;unfold Ii;refine Ak (T:=tb) Ah mixed Tryz.func195 rfl (by decide) (Af rfl) rfl ?_;unfold St.init
 by_cases h:a.length=b.length
 ·simp -implicitDefEqProofs[jJ,-natCast_add,-natCast_mul,h]
  (first|refine Ab k ?_|refine Aa k ?_)
  simp -implicitDefEqProofs[jJ,-natCast_add,-natCast_mul]
 ·simp -implicitDefEqProofs[jJ,-natCast_add,-natCast_mul,h]
end Go.Va
