/- a part of the proof -/
import Derived.Test.YtplacedebenpaaaGreatDoorEag
set_option linter.all false
namespace Go.Va
open Keep renaming mono → aD
open _root_.Array renaming replicate → aG
open Go.RowKit
variable [DrC]
variable [Gv]
section
variable {P:Program} {T:AH} {M Z:Addr->Prop} {w0 w:World} {ρ:AE} {st:St} {a:Act}
def HV(tmps:Array Value)(r:ResultVar):Sem Value:=
 match r with
 | .tmp t=>pure (tmps.getD t undef)
 | .cell a' t=>do loadVar t (<-asAddr (tmps.getD a' undef))
def Lz(vs:Array Value):Value:=if h:vs.size=1 then vs[0] else .tuple vs
theorem VU(fn:Func)(tmps:Array Value):results fn tmps=(fn.results.mapM (HV tmps)).bind λvs=>pure (Lz vs):=by
 rfl
theorem Wy(tmps:Array Value)(t:Nat):HV tmps (.tmp t)=pure (tmps.getD t undef):=rfl
theorem RD(q:Dk P T)(h:Rel M Z w0 ρ st a w): ∀{p:List ResultVar} {l:List U},p.mapM (st.resU T)=some l->
  ∃k:List Value,(p.mapM (HV a.tmps)).run P w= .ok k w/\RepL (RepU ρ w Z) l k
 |[],l,g=>by simp at g;subst g;exact⟨[],O1,rfl,O1⟩
 |r::p,l,g=>by
  simp only[List.mapM_cons,Option.pure_def,Option.bind_eq_bind,jzd,Option.some.injEq]at g;obtain⟨u,b,K,m,rfl⟩:=g;obtain⟨k,H,x,I⟩:=RD q h m;cases r with
  |cell t J=>
   simp only[St.resU,jzd]at b;obtain⟨i,hi,b⟩:=b;split at b
   ·rename_i c E;obtain⟨info,d,G⟩:=Be (q J i hi);obtain⟨N,v,z,F,o⟩:=Tr (P:=P) h G (h.tmps t _ E) b;refine⟨v::k,?_,by simp[x],λj y L f e=> ?_⟩
    ·simp only[List.mapM_cons,HV,z,asAddr,Sem.run_bind,Sem.run_pure,Result.andThen_ok,F,H]
    ·cases j with
     |zero=>simp only[List.getElem?_cons_zero,Option.some.injEq]at f e;subst f;subst e;exact o
     |succ j=>exact I j y L (by simpa using f) (by simpa using e)
   ·cases b
  |tmp t=>
   simp only[St.resU]at b;split at b<;>cases b;have o:=h.tmps t _ ‹_›;refine⟨a.tmps.getD t undef::k,?_,by simp[x],λj y v f e=> ?_⟩
   ·grind[Wy,Sem.run_bind,Sem.run_pure,Result.andThen_ok]
   ·cases j with
    |zero=>simp only[List.getElem?_cons_zero,Option.some.injEq]at f e;subst f;subst e;exact o
    |succ j=>grind
theorem GT(q:Dk P T)(h:Rel M Z w0 ρ st a w){fn:Func}{v:V}(f:st.res T fn.results.toList=some v): ∃x,(results fn a.tmps).run P w= .ok x w/\RepV ρ w Z v x:=by
 rw[VU];have i: ∀j,fn.results.toList.mapM (st.resU T)=some j-> ∃b:List Value,(fn.results.mapM (HV a.tmps)).run P w= .ok b.toArray w/\RepL (RepU ρ w Z) j b:=λj o=>by
  obtain⟨b,e,g⟩:=RD (P:=P) q h o;simp_all[Array.mapM_eq_mapM_toList]
 unfold St.res at f;split at f
 ·rename_i r m;rw[jze]at f;obtain⟨u,k,rfl⟩:=f;obtain⟨b,e,g,p⟩:=i [u] (by rw[m];simp[k])
  match b,g with
  |[x],_=>exact⟨x,by simp[Sem.run_bind',e,Lz],p 0 u x rfl rfl⟩
 ·rename_i l;rw[jze]at f;obtain⟨j,k,rfl⟩:=f;obtain⟨b,e,g⟩:=i j k;refine⟨.tuple b.toArray,?_,b,rfl,g⟩;have t:b.length≠1:=by
   rw[<-g.1,(Dl k).1];intro e;obtain⟨r,m⟩:=List.length_eq_one_iff.1 e;exact l r m
  simp[Sem.run_bind',e,t,Lz]
structure OwnOk (w0 w:World) (ρ:AE) (Z:Addr->Prop) (o:Own) (b:Blk):Prop where
 fresh: ∀ad,o.has ad->w0.heap.size<=ad.block
 sub: ∀ad,o.has ad->Ar ρ Z ad
 cells:o.gone=false-> ∀j,j<o.room*o.sz->(∃v,w.cell? (o.at j)=some v)/\w.frozen? (o.at j)=false
 lim:o.room<=maxLen
 rep: ∀ρs:AE,(∀ad,Ar ρs Z ad->Ar ρ Z ad)->RepB ρs w Z o b
theorem Zq(h:Rel (λ_=>False) Z w0 ρ st a w){pure:Bool}{c:C}{r:RC}{v:Value}(p:fitC st pure c r)(H:RepC ρ w Z c v)(hp:pure=false->r.rows=[]):
  ∃o:Own,(∀b∈r.rows,OwnOk w0 w ρ Z o b)/\ ∀(e:AE) (k:Nat),(∀f,Ar e Z f->Ar ρ Z f)->(pure=false-> ∀f,Ar e Z f->Z f)->(r.rows≠[]->e k=some o)->RepC e w Z (r.imp k) v:=by
 cases r with
 |d x=>
  obtain⟨h1,h2⟩:(pure=true->c.id? =none)/\st.cD c=some x:=by cases c<;>exact p
  refine⟨default_own,(by grind[RC.rows]),λe k z E _=> ?_⟩;cases pure with
  |false=>
   have:=EP h (λ_=>true) 4 c v x H h2;refine RepD.keep (aD λf G=> ?_) this;exact .inl (E rfl f G)
  |true=>
   have t:=h1 rfl;cases c with
   |d y=>simp[St.cD,toD]at h2;subst h2;exact RepD.keep (aD z) H
   |nl=>simp[St.cD,toD]at h2;subst h2;cases (show v=_ from H);exact .snil
   |bad=>simp[St.cD,toD]at h2
   |sl=>cases t
   |ptr=>cases t
   |mp=>cases t
 |own sz m cs=>
  cases c with
  |sl i K n=>
   cases K with
   |succ=>exact p.elim
   |zero=>
    obtain⟨rfl,J,L⟩:=p;obtain⟨o,G,hroom,hcase⟩:=H;obtain⟨F,Q,N⟩:=h.heap.rep i _ J;obtain rfl:F=o:=O3;refine⟨F,λb l=> ?_,λe k z E I=> ?_⟩
    ·simp only[RC.rows,List.mem_singleton]at l;subst l;exact⟨λf q=>(h.mine i F f G q).resolve_left (λh=>h),λf q=> .inr ⟨i,F,G,q⟩,h.heap.owns.cells i F G,h.heap.owns.lim i F G,λe M=>by
      obtain⟨W,X,Y,q4,q5⟩:=N;exact⟨W,X,Y,q4,λj x T=>by obtain⟨u,S,P⟩:=q5 j x T;exact⟨u,S,P.keep (aD M)⟩⟩⟩
    ·exact⟨F,I (by simp[RC.rows]),hroom,hcase⟩
  |nl=>
   obtain⟨rfl,rfl⟩:=p;refine⟨{ g:=0,o:=0,sz:=sz,room:=0,app:=true,nil:=true },λb l=> ?_,λe k z E I=> ?_⟩
   ·simp only[RC.rows,List.mem_singleton]at l;subst l;exact⟨λf q=>(by cases q.1),λf q=>(by cases q.1),O1,by simp[maxLen],λe M=>⟨rfl,rfl,O1,O1,O1⟩⟩
   ·exact⟨_,I (by simp[RC.rows]),O1,.inl ⟨rfl,H,rfl,rfl⟩⟩
  |d=>exact p.elim
  |mp=>exact p.elim
  |ptr=>exact p.elim
  |bad=>exact p.elim
where default_own:Own:={ g:=0,o:=0,sz:=0,room:=0,app:=false,nil:=true }
structure SOk (ρ:AE) (Z:Addr->Prop) (ρs:AE) (pure:Bool):Prop where
 sub: ∀ad,Ar ρs Z ad->Ar ρ Z ad
 none:pure=false-> ∀ad,Ar ρs Z ad->Z ad
def Fits(w0 w:World)(ρ:AE)(Z:Addr->Prop)(pure:Bool)(rows:List Blk)(rep:AE->Nat->Prop):Prop:=
 ∃o:Own,(∀b∈rows,OwnOk w0 w ρ Z o b)/\ ∀(a:AE) (k:Nat),SOk ρ Z a pure->(rows≠[]->a k=some o)->rep a k
theorem Fits.and{pure:Bool}{a e:List Blk}{f g:AE->Nat->Prop}(j:Fits w0 w ρ Z pure a f)(l:Fits w0 w ρ Z pure e g)(r:(a++e).length<=1):Fits w0 w ρ Z pure (a++e) λb k=>f b k/\g b k:=by
 obtain⟨m,h,p⟩:=j;obtain⟨o,i,q⟩:=l;cases a with
 |nil=>exact⟨o,i,O3⟩
 |cons x a=>
  have:e=[]:=by
   simp_all
  subst this;simp only[List.append_nil]at*;exact⟨m,h,O3⟩
theorem M2{α β:Type}{pure:Bool}{fit:α->β->Prop}{rows:β->List Blk}{rep:α->Value->Prop}{imp:Nat->β->α}{repS:AE->α->Value->Prop}
  (one: ∀(x:α) (y:β) (v:Value),fit x y->rep x v->(rows y).length<=1->(pure=false->rows y=[])->Fits w0 w ρ Z pure (rows y) λa k=>repS a (imp k y) v):
  ∀(l:List α) (b:List β) (vs:List Value),fitL fit l b->RepL rep l vs->(b.flatMap rows).length<=1->(pure=false->b.flatMap rows=[])->
   Fits w0 w ρ Z pure (b.flatMap rows) λa k=>RepL (repS a) (b.map (imp k)) vs
 |[],[],vs,_,h,_,_=>⟨{ g:=0,o:=0,sz:=0,room:=0,app:=false,nil:=true },O1,λa k _ _=>⟨by simpa using h.1,O1⟩⟩
 |[],_::_,_,e,_,_,_=>e.elim
 |_::_,[],_,e,_,_,_=>e.elim
 |x::l,y::b,[],e,h,_,_=>by have:=h.1;simp at this
 |x::l,y::b,v::vs,e,h,r,K=>by
  obtain⟨m,p⟩:=e;simp only[List.flatMap_cons]at r K ⊢;have M:(rows y).length<=1:=by simp at r;omega
  have N:(b.flatMap rows).length<=1:=O3;have P:pure=false->rows y=[]:=(by simp_all)
  have Q:pure=false->b.flatMap rows=[]:=O3;have t:=one x y v m (h.2 0 x v rfl rfl) M P;have z:=M2 one l b vs p ⟨by have:=h.1;simpa using this,λj q u f i=>h.2 (j+1) q u (by simpa using f) (by simpa using i)⟩ N Q;obtain⟨o,E,F⟩:=t.and z r;refine⟨o,E,λa k L J=> ?_⟩;obtain⟨G,H,I⟩:=F a k L J;refine⟨by simpa using H,λj q u f i=> ?_⟩;cases j with
  |zero=>simp at f i;subst f;subst i;exact G
  |succ j=>exact I j q u (by simpa using f) (by simpa using i)
theorem N8(h:Rel (λ_=>False) Z w0 ρ st a w){pure:Bool}{c:C}{r:RC}{v:Value}(j:fitC st pure c r)(i:RepC ρ w Z c v)(m:pure=false->r.rows=[]):
  Fits w0 w ρ Z pure r.rows λb k=>RepC b w Z (r.imp k) v:=by
 obtain⟨o,f,g⟩:=Zq h j i m;exact⟨o,f,λb k e l=>g b k e.sub e.none l⟩
theorem Rn(h:Rel (λ_=>False) Z w0 ρ st a w){pure:Bool}{u:U}{r:RU}{v:Value}(e:fitU st pure u r)(g:RepU ρ w Z u v)(E:r.rows.length<=1)(i:pure=false->r.rows=[]):
  Fits w0 w ρ Z pure r.rows λb k=>RepU b w Z (r.imp k) v:=by
 cases u with
 |c x=>cases r with
  |c y=>exact N8 h e g i
  |agg=>exact e.elim
 |agg l=>cases r with
  |c=>exact e.elim
  |agg p=>
   obtain⟨m,rfl,j⟩:=g;obtain⟨o,q,t⟩:=M2 (pure:=pure) (fit:=fitC st pure) (rep:=RepC ρ w Z) (rows:=RC.rows) (repS:=λb=>RepC b w Z) (imp:=RC.imp) (λx y v e g _ i=>N8 h e g i) l p m e j E i;exact⟨o,q,λb k F z=>⟨m,rfl,t b k F z⟩⟩
 |clo f l=>cases r<;>exact e.elim
theorem jcm(h:Rel (λ_=>False) Z w0 ρ st a w){pure:Bool}{u:V}{r:R}{v:Value}(e:fitV st pure u r)(f:RepV ρ w Z u v)(g:r.rows.length<=1)(i:pure=false->r.rows=[]):
  Fits w0 w ρ Z pure r.rows λb k=>RepV b w Z (r.imp k) v:=by
 cases u with
 |u x=>cases r with
  |u y=>exact Rn h e f g i
  |tup=>exact e.elim
 |tup E=>cases r with
  |u=>exact e.elim
  |tup m=>
   obtain⟨l,rfl,j⟩:=f;obtain⟨o,p,q⟩:=M2 (pure:=pure) (fit:=fitU st pure) (rep:=RepU ρ w Z) (rows:=RU.rows) (repS:=λb=>RepU b w Z) (imp:=RU.imp) (λx y v e f g i=>Rn h e f g i) E m l e j g i;exact⟨o,p,λb k z t=>⟨l,rfl,q b k z t⟩⟩
 |tr x m=>cases r<;>exact e.elim
theorem Ts(h:Rel (λ_=>False) Z w0 ρ st a w){u:V}{r:R}{v:Value}(L:r.rows.length<=1)(X:fitV st (!r.rows.isEmpty) u r)(W:RepV ρ w Z u v):Hb w0 w Z r v:=by
 obtain⟨o,K,z⟩:=jcm h X W L O1;refine⟨L,?_⟩;cases M:r.rows with
 |nil=>
  rw[M]at z;refine⟨{ g:=0,o:=0,sz:=0,room:=0,app:=false,nil:=true },λl E=>(by cases E.1),λk=> ?_⟩;have hout: ∀(f:Own) l,Ar (B3 k [] f) Z l->Z l:=λf l p=>by
   rcases p with J|⟨j,S,G,_⟩
   ·exact J
   ·cases G
  refine⟨z _ k ⟨λl p=> .inl (hout _ l p),O3⟩ O1,⟨⟨λi f hi=>(by cases hi),λi N P Q hi=>(by cases hi),λi f hi=>(by cases hi)⟩,λi b T=>(by cases T)⟩⟩
 |cons b y=>
  have t:y=[]:=by simp_all
  subst t;rw[M]at K z;have p:=K b O1;refine⟨o,p.fresh,λk=> ?_⟩;have x: ∀i f,B3 k [b] o i=some f->i=k/\f=o:=λi f hi=>by
   simp only[B3]at hi;grind
  have q: ∀l,Ar (B3 k [b] o) Z l->Ar ρ Z l:=λl E=>by
   rcases E with J|⟨j,S,G,I⟩
   ·exact .inl J
   ·obtain⟨rfl,rfl⟩:=x j S G;exact p.sub l I
  refine⟨z _ k ⟨q,O1⟩ (by grind[B3]),⟨⟨λi f hi=> ?_,λi N P Q hi F H=> ?_,λi f hi=> ?_⟩,λi Y m=> ?_⟩⟩
  ·obtain⟨rfl,rfl⟩:=x i f hi;exact p.cells
  ·obtain⟨rfl,rfl⟩:=x i P hi;obtain⟨rfl,rfl⟩:=x N Q F;exact absurd rfl H
  ·obtain⟨rfl,rfl⟩:=x i f hi;exact p.lim
  ·by_cases e:i=k
   ·subst e;rw[Bt]at m;cases m;exact⟨o,by simp[B3],p.rep _ q⟩
   ·rw[BD e]at m;cases m
theorem Eg{w:World}{Z:Addr->Prop}: ∀(a:List A) (vals:List Value) (k:Nat),RepL (A.rep w Z) a vals-> ∀(t:Nat) (v:V),lk t (CJ k a)=some v->k<=t/\ ∃x,vals[t - k]? =some x/\RepV (λ_=>none) w Z v x
 |[],_,k,_,t,v,h=>by cases h
 |A0::a,[],k,b,t,v,h=>by have:=b.1;simp at this
 |A0::a,x::vals,k,b,t,v,h=>by
  have hout: ∀f,Ar (λ_=>none) Z f->Z f:=λf o=>by
   rcases o with z|⟨j,I,m,_⟩
   ·exact z
   ·cases m
  simp only[CJ,lk]at h;split at h
  ·rename_i e;subst e;cases h;refine⟨AO _,x,O1,?_⟩;have l:=b.2 0 A0 x rfl rfl;cases A0 with
   |c y=>exact RepD.keep (aD hout) l
   |agg F=>
    obtain⟨E,rfl,i⟩:=l;exact⟨E,rfl,i.imp C.d λy u _ g=>RepD.keep (aD hout) g⟩
  ·obtain⟨G,y,H,r⟩:=Eg a vals (k+1) ⟨by have:=b.1;simpa using this,λj q u p g=>b.2 (j+1) q u (by simpa using p) (by simpa using g)⟩ t v h;grind
theorem GU: ∀(a:List A) (k t:Nat) (x:Value) (r:List (List A)),lk t (CJ k a)≠some (.tr x r)
 |[],_,_,_,_,h=>by cases h
 |A0::a,k,t,x,r,h=>by
  simp only[CJ,lk]at h;split at h
  ·cases A0<;>cases h
  ·exact GU a (k+1) t x r h
theorem Am(hT:Dk P T)(hm:P.follows .mixedOrders=true){f:FuncId}{fn:Func}{c:Code}{as:List A}{res:R}(hf:P.funcs[f]? =some fn)(hb:fn.body=some c)
  (hname : (fn.name == "runtime.NumGoroutine") = false) (hn : as.length ≤ fn.ntmps) (hok : B6 fn.ntmps [] c = true) (hw : Bl P T c (St.init as) (HU T fn.results.toList res)) : CallsF P f as res := by
 refine⟨⟨fn,hf,by rw[hb];rfl,hname⟩,λw Z vals hZ hvals=> ?_⟩;have hlen:vals.length=as.length:=hvals.1.symm;refine calls_of_wp hf hb ?_;have hsz:(vals.toArray++aG (fn.ntmps - vals.toArray.size) undef).size=fn.ntmps:=by simp;omega
 have hrel:Rel (λ_=>False) Z w (λ_=>none) (St.init as) { tmps:=vals.toArray++aG (fn.ntmps - vals.toArray.size) undef,defers:=[] } w:=
  {fr:=⟨rfl,DR.refl _,rfl,rfl,AO _,λa v _ h=>h,λ_ _ _=>rfl,λ_ _ _=>rfl⟩
   heap:=⟨⟨O1,O1,O1⟩,λi b hb=>(by cases hb)⟩
   mine:=O1
   out:=O3
   mz:=λad h=>h.elim
   tmps:=λt v hv=>by
    obtain⟨_,x,hx,hr⟩:=Eg as vals 0 hvals t v hv;have ht:t<vals.length:=O3;simp only[Nat.sub_zero]at hx;have:(vals.toArray++aG (fn.ntmps - vals.toArray.size) undef).getD t undef=x:=by
     simp_all[Cn,Array.getElem?_append_left]
    grind
   defers:=rfl
   mps:=λi o hi=>by cases hi }
 have hc:=Dr (X:=⟨λ_=>False,Z,w,fn.ntmps,[],λ_=>undef,none,λ_=>False,λ_=>False⟩) hT O1 hm c (HU T fn.results.toList res) _ w hok
  ⟨_,_,_,_,_,⟨O1,O1,hrel.fr.mono λ_ h=> .inl h,λ_ h=>h,λ_ h=> .inl h,λx r hh=>absurd hh (GU as 0 YS x r)⟩,hrel,hsz,hw⟩
 refine hc.mono' λe a' w' hg=> ?_;obtain⟨M1,Z1,w1,ρ,st,hL,h1,h2,hend,v,hv,hl,hfit⟩:=hg;obtain⟨rfl,rfl,rfl⟩:=hL.plain rfl;obtain⟨x,hx,hrx⟩:=GT (P:=P) hT h1 hv;have hres:=Ts h1 hl hfit hrx;have hbel:Ext w1 w':=⟨⟨h1.fr.os,h1.fr.tape,h1.fr.output,h1.fr.size,λk hk=>h1.fr.blk k hk (λ_ _ h=>h)⟩,h1.fr.drawn⟩
 rcases hend with rfl|rfl
 ·exact⟨h1.defers,x,hx,x,rfl,hbel,hres⟩
 ·exact⟨h1.defers,x,hx,x,rfl,hbel,hres⟩
end
end Go.Va
namespace Go.Va
open _root_.Array renaming replicate → aD, getElem?_append_left → aG
open Go.RowKit
variable [DrC]
variable [Gv]
def St.initY(x:Value)(b:List (List A))(a:List A):St:={ t:=(YS,.tr x b)::CJ 0 a,h:=[] }
def LQ(x:Value)(a:List (List A))(e:Exit)(st:St):Prop:=(e= .ret\/e= .normal)/\lk YS st.t=some (.tr x a)
def OS(k:Nat):List C->List (Nat×V)
 |[]=>[]
 |c::r=>(k,.u (.c c))::OS (k+1) r
def St.initX(y:List A)(cs:List C)(h:List (Nat×Blk)):St:={ t:=CJ 0 y++OS y.length cs,h:=h }
def jlS(k n:Nat):List Nat:=(List.range n).map (k+ ·)
def jkT(k:Nat)(cs:List C)(a:List (Nat×Blk))(e:Exit)(st:St):Prop:=
 (e= .ret\/e= .normal)/\ ∃f:List (Nat×Nat),AW (rns f st).t (OS k cs)/\AW (rns f st).h a/\DB (a.map (·.1)) cs/\ ∀i b,lk i a=some b->KW (a.map (·.1)) b
variable{fn:Func}{as:List A}
section
variable {P:Program} {T:AH}
theorem jgI(h:fn.results= #[])(tmps:Array Value)(w:World):(results fn tmps).run P w= .ok (.tuple #[]) w:=by
 simp_all[VU,Lz,Sem.run_bind']
theorem jiV: ∀(cs:List C) (k t:Nat) (v:V),lk t (OS k cs)=some v->k<=t/\ ∃c,cs[t - k]? =some c/\v= .u (.c c)
 |[],_,_,_,h=>by cases h
 |c::cs,k,t,v,h=>by
  simp only[OS,lk]at h;split at h
  ·grind
  ·obtain⟨b,a,e,f⟩:=jiV cs (k+1) t v h;grind
theorem jr8: ∀(cs:List C) (k j:Nat) (c:C),cs[j]? =some c->lk (k+j) (OS k cs)=some (.u (.c c))
 |[],_,_,_,h=>by simp at h
 |c0::cs,k,0,c,h=>by simp at h;subst h;exact Bt _ _ _
 |c0::cs,k,j+1,c,h=>by
  simp only[OS];rw[BD O,show k+(j+1)=(k+1)+j by omega];exact jr8 cs (k+1) j c (by simpa using h)
theorem Ps(hT:Dk P T)(hm:P.follows .mixedOrders=true){f:FuncId}{c:Code}{x:Value}{ys:List (List A)}(hf:P.funcs[f]? =some fn)(hb:fn.body=some c)
  (hname : (fn.name == "runtime.NumGoroutine") = false) (hn : as.length ≤ fn.ntmps) (hres : fn.results = #[]) (hok : B6 fn.ntmps [] c = true) (hw : ∀ rest, Bl P T c (St.initY x (ys ++ rest) as) (LQ x rest)) : Gy P x f as ys := by
 refine⟨⟨fn,hf,by rw[hb];rfl,hname⟩,λY hx hY w Z vals rest R D hJ hZ hRZ hvals=> ?_⟩;have hlen:vals.length=as.length:=hvals.1.symm;refine calls_of_wp hf hb ?_;have hsz:(vals.toArray++aD (fn.ntmps - vals.toArray.size) undef).size=fn.ntmps:=by simp;omega
 have hget: ∀(t:Nat) (v:V),lk t (CJ 0 as)=some v->RepV (λ_=>none) w Z v ((vals.toArray++aD (fn.ntmps - vals.toArray.size) undef).getD t undef):=λt v hv=>by
  obtain⟨_,y,hy,hr⟩:=Eg as vals 0 hvals t v hv;have ht:t<vals.length:=O3;simp only[Nat.sub_zero]at hy;have:(vals.toArray++aD (fn.ntmps - vals.toArray.size) undef).getD t undef=y:=by
   simp_all[Cn,aG]
  grind
 have hrel:Rel (λ_=>False) Z w (λ_=>none) (St.initY x (ys++rest) as) { tmps:=vals.toArray++aD (fn.ntmps - vals.toArray.size) undef,defers:=[] } w:=
  {fr:=⟨rfl,DR.refl _,rfl,rfl,AO _,λa v _ h=>h,λ_ _ _=>rfl,λ_ _ _=>rfl⟩
   heap:=⟨⟨O1,O1,O1⟩,λi b hb=>(by cases hb)⟩
   mine:=O1
   out:=O3
   mz:=λad h=>h.elim
   tmps:=λt v hv=>by
    simp only[St.initY,lk]at hv;split at hv
    ·cases hv;trivial
    grind
   defers:=rfl
   mps:=λi o hi=>by cases hi }
 have hsub:=hY.sub _ R D w hJ;have hc:=Dr (X:=⟨λ_=>False,Z,w,fn.ntmps,[],λ_=>undef,some Y,R,D⟩) hT O3 hm c (LQ x rest) _ w hok
  ⟨_,_,_,_,_,⟨O1,O1,hrel.fr.mono λ_ h=> .inl h,λ_ h=>h,λ_ h=> .inl h,λx' r hh=>by
   simp only[St.initY,Bt,Option.some.injEq,V.tr.injEq]at hh;grind⟩,hrel,hsz,hw rest⟩
 refine hc.mono' λe a' w' hg=> ?_;obtain⟨M1,Z1,w1,ρ,st,hL,h1,h2,hend,hlk⟩:=hg;obtain⟨Y',R',D',hYY,hx',hJ',hRZ',hR0,hDM,hD0,hD00⟩:=hL.y _ _ hlk;cases hYY;have hpost:(Ending.returned (.tuple #[])= .returned (.tuple #[]))/\ ∃R' D',Y.J rest R' D' w'/\Fr R w w'/\(∀ad,R' ad->R ad\/w.heap.size<=ad.block)/\(∀ad,D' ad->D ad\/ ¬Z ad\/w.heap.size<=ad.block)/\(∀ad,D ad->D' ad):=
  ⟨rfl,R',D',hY.stable _ _ _ w1 w' M1 hJ' O3 h1.fr,(hL.fr.mono (M':=R) O1).into h1.fr (λad hm=>(hL.m ad hm).elim (λh=>h.elim) .inr),hR0,hD0,hD00⟩
 rcases hend with rfl|rfl
 ·exact⟨h1.defers,_,jgI hres _ _,hpost⟩
 ·exact⟨h1.defers,_,jgI hres _ _,hpost⟩
theorem RP{α:Type}{i:Nat}{b:α}: ∀{l:List (Nat×α)},lk i l=some b->i∈l.map (·.1)
 |[],h=>by cases h
 |(j,v)::r,h=>by
  unfold lk at h;split at h
  ·grind
  ·simp[RP h]
theorem UN{α:Type}{i:Nat}: ∀{l:List (Nat×α)},i∈l.map (·.1)->(lk i l).isSome=true
 |[],h=>by simp at h
 |(j,v)::r,h=>by
  unfold lk;split
  ·rfl
  ·rename_i e;simp only[List.map_cons,jzn]at h;exact UN O3
def BK:Nat:=2000000
def St.initA(n sz:Nat)(cs:List D)(a:List A):St:={ t:=(0,vC (.sl BK 0 n))::CJ 1 a,h:=[(BK,.row sz cs true)] }
def Sz(T:AH)(a:List ResultVar)(sz m:Nat)(cs:List D)(e:Exit)(st:St):Prop:=(e= .ret\/e= .normal)/\ ∃j,st.res T a=some (vC (.sl j 0 m))/\lk j st.h=some (.row sz cs true)
theorem Rc(hT:Dk P T)(hm:P.follows .mixedOrders=true){f:FuncId}{c:Code}{sz n m:Nat}{cs cs':List D}(hf:P.funcs[f]? =some fn)(hb:fn.body=some c)
  (hname : (fn.name == "runtime.NumGoroutine") = false) (hn : as.length + 1 ≤ fn.ntmps) (hok : B6 fn.ntmps [] c = true) (hw : Bl P T c (St.initA n sz cs as) (Sz T fn.results.toList sz m cs')) : CallsA P f sz n cs as m cs' := by
 refine⟨⟨fn,hf,by rw[hb];rfl,hname⟩,λw Z ρ0 k v0 vals hZ hh hcz hone hv0 hvals=> ?_⟩;have hlen:vals.length=as.length:=hvals.1.symm;refine calls_of_wp hf hb ?_;generalize htm:((v0::vals).toArray++aD (fn.ntmps - (v0::vals).toArray.size) undef)=tm;have hsz:tm.size=fn.ntmps:=O3;have hg: ∀t,t<vals.length+1->tm.getD t undef=(v0::vals).getD t undef:=λt ht=>by
  rw[<-htm,Cn,aG (by simp;omega)];simp
 let ρB:AE:=λi=>if i=BK then ρ0 k else none
 have eB: ∀i o,ρB i=some o->i=BK/\ρ0 k=some o:=O3;have eB': ∀o,ρ0 k=some o->ρB BK=some o:=O3;have hcell: ∀ad,Cells ρB ad↔Cells ρ0 ad:=λad=>⟨λ⟨i,o,hi,ho⟩=>⟨k,o,(eB i o hi).2,ho⟩,λ⟨i,o,hi,ho⟩=>⟨BK,o,O3,ho⟩⟩
 have hout: ∀ad,Ar ρB Z ad->Ar ρ0 Z ad:=λad h=>h.imp id λh=>(hcell ad).1 h;have hout': ∀ad,Ar ρ0 Z ad->Ar ρB Z ad:=λad h=>h.imp id λh=>(hcell ad).2 h;have hrel:Rel (Cells ρ0) Z w ρB (St.initA n sz cs as) { tmps:=tm,defers:=[] } w:=
  {fr:=⟨rfl,DR.refl _,rfl,rfl,AO _,λa v _ h=>h,λ_ _ _=>rfl,λ_ _ _=>rfl⟩
   heap:=⟨⟨λi o hi=>hh.owns.cells k o (eB i o hi).2,O3,λi o hi=>hh.owns.lim k o (eB i o hi).2⟩,λi b hib=>by
    by_cases e:i=BK
    ·subst e;simp only[St.initA]at hib;rw[Bt]at hib;cases hib;obtain⟨o,ho,q1,q2,q3,q4,q5⟩:=hh.rep k _ (Bt _ _ _);exact⟨o,eB' o ho,q1,q2,q3,q4,λj x hx=>by obtain⟨u,hu,hd⟩:=q5 j x hx;exact⟨u,hu,hd.keep (Keep.mono hout)⟩⟩
    ·simp only[St.initA]at hib;rw[BD e]at hib;cases hib⟩
   mine:=λi o ad hi ho=> .inl ((hcell ad).1 ⟨i,o,hi,ho⟩)
   out:=hZ
   mz:=hcz
   tmps:=λt v hv=>by
    simp only[St.initA,lk]at hv;split at hv
    ·rename_i e;subst e;cases hv;rw[hg 0 O];obtain⟨o,ho,r⟩:=hv0;exact⟨o,eB' o ho,r⟩
    ·obtain⟨hle,y,hy,hr⟩:=Eg as vals 1 hvals t v hv;have hlt:=(jzg.1 hy).1;rw[hg t O];have:(v0::vals).getD t undef=y:=by
      grind
     rw[this];have key: ∀(u:V) (x:Value),RepV (λ_=>none) w (Ar ρ0 Z) u x->(∃A0:A,u=A0.toV)->RepV ρB w Z u x:=λu x hu ⟨A0,he⟩=>by
      subst he;have hk:Keep w w (Ar (λ_=>none) (Ar ρ0 Z)) (Ar ρB Z):=Keep.mono λad h=> .inl (hout ad h);cases A0 with
      |c d=>exact RepD.keep hk hu
      |agg ds=>obtain⟨vs,hvs,hl,hr⟩:=hu;exact⟨vs,hvs,hl,λj z y hz hy=>by
        have:=hr j z y hz hy;simp only[Bf,jze]at hz;obtain⟨q,_,rfl⟩:=hz;exact RepD.keep hk this⟩
     refine key v y hr ?_;have toV: ∀(as:List A) (k:Nat),lk t (CJ k as)=some v-> ∃A0:A,v=A0.toV:=by
      intro as
      induction as with
      |nil=>intro k h;cases h
      |cons A0 as ih=>
       intro k h;simp only[CJ,lk]at h;grind
     exact toV as 1 hv
   defers:=rfl
   mps:=λi o hi hm=>by
    obtain⟨o',ho',hr⟩:=hh.rep k _ (Bt _ _ _);obtain rfl:o'=o:=O3;exact absurd hm (hr.nomp O1) }
 have hc:=Dr (X:=⟨Cells ρ0,Z,w,fn.ntmps,[],λ_=>undef,none,λ_=>False,λ_=>False⟩) hT O1 hm c (Sz T fn.results.toList sz m cs') _ w hok
  ⟨_,_,_,_,_,⟨O1,O1,hrel.fr.mono λ_ h=> .inl h,λ_ h=>h,λ_ h=> .inl h,(by grind[St.initA,lk,absurd,GU,YS])⟩,hrel,hsz,hw⟩
 refine hc.mono' λe a' w' hg=> ?_;obtain⟨M1,Z1,w1,ρ1,st,hL,h1,h2,hend,j,hres,hlk⟩:=hg;obtain⟨rfl,rfl,rfl⟩:=hL.plain rfl;obtain⟨x,hx,hrx⟩:=GT (P:=P) hT h1 hres;obtain⟨oj,hoj,hb'⟩:=h1.heap.rep j _ hlk;have hrx:RepC ρ1 w' Z1 (.sl j 0 m) x:=hrx;let ρ2:AE:=λi=>if i=k then ρ1 j else none
 have e2: ∀i o,ρ2 i=some o->i=k/\ρ1 j=some o:=O3;have hsub: ∀ad,Ar ρ2 Z1 ad->Ar ρ1 Z1 ad:=λad h=>h.imp id O3;have hpost:Ending.returned x= .returned x/\ ∃ρ',Fr (Cells ρ0) w1 w'/\Heap ρ' w' Z1 [(k,.row sz cs' true)]/\(∀i o,ρ' i=some o->i=k)/\(∀ad,Cells ρ' ad->Cells ρ0 ad\/w1.heap.size<=ad.block)/\RepC ρ' w' Z1 (.sl k 0 m) x:=by
  refine⟨rfl,ρ2,h1.fr,⟨⟨λi o hi=>h1.heap.owns.cells j o (e2 i o hi).2,O3,λi o hi=>h1.heap.owns.lim j o (e2 i o hi).2⟩,λi b hib=> ?_⟩,O3,λad ⟨i,o,hi,ho⟩=>h1.mine j o ad (e2 i o hi).2 ho,?_⟩
  ·by_cases e:i=k
   ·subst e;rw[Bt]at hib;cases hib;obtain⟨q1,q2,q3,q4,q5⟩:=hb';exact⟨oj,by simp[ρ2,hoj],q1,q2,q3,q4,λt y hy=>by obtain⟨u,hu,hd⟩:=q5 t y hy;exact⟨u,hu,hd.keep (Keep.mono hsub)⟩⟩
   ·rw[BD e]at hib;cases hib
  ·obtain⟨o,ho,r⟩:=hrx;exact⟨o,by simp[ρ2,ho],r⟩
 rcases hend with rfl|rfl
 ·exact⟨h1.defers,_,hx,_,hpost⟩
 ·exact⟨h1.defers,_,hx,_,hpost⟩
end
end Go.Va
