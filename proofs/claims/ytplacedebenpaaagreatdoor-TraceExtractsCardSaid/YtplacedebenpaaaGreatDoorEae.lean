/- a part of the proof -/
import Derived.Test.YtplacedebenpaaaGreatDoorEad
import Derived.Tactics
set_option linter.all false
namespace Go.Va
open _root_.Option renaming bind_eq_some_iff → aD
open Builtin renaming clear_ → aG, copy_ → aH, lenOf → aI, min2 → aJ, max2 → aL
open Go.RowKit
variable [DrC]
variable [Gv]
section
variable {P:Program} {T:AH} {M Z:Addr->Prop} {w0 w:World} {ρ:AE} {st:St} {a:Act}
theorem SZ{k:IntKind}: ∀{l:List (IntKind×Int)} {x:Int} {v:V},DL false k x l=some v-> ∃n:Int,v=vI k n/\((l.map λp=>Value.int p.1 p.2).foldlM aJ (.int k x)).run P w= .ok (.int k n) w
 |[],x,v,h=>by cases h;simp
 |(f,y)::r,x,v,h=>by
  simp only[DL]at h;split at h
  case isFalse=>cases h
  case isTrue a=>
   subst a;obtain⟨n,b,e⟩:=SZ h;refine⟨n,b,?_⟩;simp only[List.map_cons,List.foldlM_cons,aJ,Sem.run_bind,Sem.run_pure,Result.andThen_ok];simpa using e
theorem OH{k:IntKind}: ∀{l:List (IntKind×Int)} {x:Int} {v:V},DL true k x l=some v-> ∃n:Int,v=vI k n/\((l.map λp=>Value.int p.1 p.2).foldlM aL (.int k x)).run P w= .ok (.int k n) w
 |[],x,v,h=>by cases h;simp
 |(f,y)::r,x,v,h=>by
  simp only[DL]at h;split at h
  case isFalse=>cases h
  case isTrue a=>
   subst a;obtain⟨n,b,e⟩:=OH h;refine⟨n,b,?_⟩;simp only[List.map_cons,List.foldlM_cons,aL,Sem.run_bind,Sem.run_pure,Result.andThen_ok];simpa using e
theorem jpK(h:Rel M Z w0 ρ st a w): ∀{f:List Operand} {l:List (IntKind×Int)},f.mapM st.evI=some l->f.map a.eval=l.map λp=>Value.int p.1 p.2
 |[],l,b=>O3
 |x::f,l,b=>by
  simp only[List.mapM_cons,Option.pure_def,Option.bind_eq_bind,jzd,Option.some.injEq]at b;obtain⟨p,g,i,e,rfl⟩:=b;simp[jpK h e,h.evI g]
theorem UO(h:Rel M Z w0 ρ st a w){o:Oper}(g: ∀d,o.dst=some d->d<a.tmps.size)(f:Bool)(x:Operand)(r:List Operand)(q:Array TypeId)
  (t:o.op= .call { callee:= .builtin (if f then .max else .min),args:=(x::r).toArray,argTypes:=q }) {e:St}
  (i:((st.evI x).bind λp=>(r.mapM st.evI).bind λl=>(DL f p.1 p.2 l).map λv=>st.put o.dst v)=some e):StepOk P M Z w0 o e a w:=by
 simp only[jzd,jze]at i;obtain⟨p,m,l,k,v,j,rfl⟩:=i;have z:=h.evI m;have y:=jpK h k;cases f with
 |false=>
  obtain⟨n,rfl,b⟩:=SZ (P:=P) (w:=w) j;refine .val h g (x:= .int p.1 n) ?_ (B4 _ _ _ _ _);simp_all[execOp,resolve,invoke,builtin,Builtin.min_]
 |true=>
  obtain⟨n,rfl,b⟩:=OH (P:=P) (w:=w) j;refine .val h g (x:= .int p.1 n) ?_ (B4 _ _ _ _ _);simp_all[execOp,resolve,invoke,builtin,Builtin.max_]
theorem jhz(h:Rel M Z w0 ρ st a w)(hT:Dk P T){o:Oper}(hd: ∀d,o.dst=some d->d<a.tmps.size)(t t':TypeId)(x y:Operand)
  (ho:o.op= .call { callee:= .builtin .copy,args:= #[x,y],argTypes:= #[t,t'] }) {st':St} {i:TI} {e:Nat} {j:TI} {s:C} {b off n:Nat} {p:Nat×List D} {k:Blk}
  (hi:T t=some i) (he:i.sl=some e) (hj:T e=some j) (hc:st.evC x=some (.sl b off n)) (hs:st.evC y=some s) (hp:st.src j s=some p) (hk:lk b st.h=some k)
  (l:copyTo j o.dst b off n st p k=some st'):StepOk P M Z w0 o st' a w:=by
 obtain⟨m,ds⟩:=p;obtain⟨info,dd,ht⟩:=Be (hT t i hi);obtain⟨infe,de,hte⟩:=Be (hT e j hj);obtain⟨A,cx,news,Y,hds,hnl,W⟩:=NT (P:=P) (j:=j) h (h.evC hs) hp;cases k with
 |box=>simp[copyTo]at l
 |fbox=>simp[copyTo]at l
 |mp=>simp[copyTo]at l
 |gh=>simp[copyTo]at l
 |row sz cs app=>
  simp only[copyTo]at l;split at l
  case isFalse=>cases l
  case isTrue N=>
   cases l;obtain⟨rfl,hlen⟩:=N;obtain⟨ow,F,hroom,hcase⟩:=h.evC hc;obtain⟨z,ho2,hr⟩:=h.heap.rep b _ hk;obtain rfl:z=ow:=Bi (ho2.symm.trans F);obtain⟨q1,q2,q3,q4,q5⟩:=hr;have Q:min m n<=m:=Nat.min_le_left _ _;have hmn':min m n<=n:=Nat.min_le_right _ _;have H:=W (min m n) Q w rfl;have G:(ds.take (min m n*j.size)).length=min m n*j.size:=by
    rw[A8,hds.1,hnl,Bs (BC _ Q)]
   have I:(news.take (min m n*j.size)).length=min m n*j.size:=by
    rw[A8,hnl,Bs (BC _ Q)]
   have K:off*j.size+min m n*j.size<=cs.length:=by
    have:=BC j.size hmn';rw[Nat.add_mul]at hlen;omega
   have E:RepL (RepD w (Ar ρ Z)) (ds.take (min m n*j.size)) (news.take (min m n*j.size)):=by
    refine⟨by rw[G,I],λq y v J X=> ?_⟩;rw[List.getElem?_take]at J X;split at J<;>try (cases J;done)
    rw[if_pos ‹_›]at X;exact hds.2 q y v J X
   have hmin:Nat.min m n=min m n:=rfl;have fin: ∀w':World,(∀ad cap,a.eval x= .slice (some ad) n cap->(storeCells ad (news.take (min m n*j.size))).run P w= .ok () w')->(a.eval x= .slice none 0 0->w'=w)->
     Rel M Z w0 ρ (st.blk b (.row j.size (splice (off*j.size) (ds.take (min m n*j.size)) cs) app)) a w'->
     StepOk P M Z w0 o ((st.blk b (.row j.size (splice (off*j.size) (ds.take (min m n*j.size)) cs) app)).put o.dst (vI .i64 (min m n:Nat))) a w:=λw' h1 h2 hrel=>by
    refine .new hd (x:= .int .i64 (min m n:Nat)) ?_ hrel (B4 _ _ _ _ _);rw[Y]at H;rcases hcase with⟨_,f,_,rfl⟩|⟨_,ad,cap,f,_⟩
    ·obtain rfl:=h2 f;simp only[Nat.min_zero,Nat.zero_mul,List.take_zero]at H;simp[execOp,ho,resolve,invoke,builtin,aH,run_underlying (ht.slice he),f,Y,aI,hte.sizeOf,H,goInt]
    ·have h3:=h1 ad cap f;simp[execOp,ho,resolve,invoke,builtin,aH,run_underlying (ht.slice he),f,Y,aI,hte.sizeOf,hmin,H,h3,goInt]
   rcases hcase with⟨S,f,rfl,rfl⟩|⟨S,ad,cap,f,hnc,hcm,had,_⟩
   ·refine fin w (λad cap h=>by rw[f]at h;cases h) (λ_=>rfl) ?_;have hsp:splice (0*j.size) (ds.take (min m 0*j.size)) cs=cs:=by simp[splice]
    rw[hsp];refine h.congr (λ_=>rfl) λq=> ?_;simp only[St.blk];by_cases e:q=b
    ·subst e;rw[Bt,hk]
    ·rw[BD e,BR e]
   ·replace S:z.gone=false:=q4.2.trans S;have r:off*j.size+(news.take (min m n*j.size)).length<=z.room*z.sz:=by rw[I,q1];omega
    have hw:=h.write F S (off:=off*j.size) (vs:=news.take (min m n*j.size)) r (b:= .row j.size (splice (off*j.size) (ds.take (min m n*j.size)) cs) app) λhk=>⟨q1,q2,by
     rw[Zi _ _ _ (by rw[G];exact K)];exact q3,q4,λq y J=>by
     rw[GI h F S r,I];rw[Df _ _ _ (by rw[G];exact K),G]at J;split at J
     ·rename_i L;rw[if_pos L];have hq2:q - off*j.size<(news.take (min m n*j.size)).length:=by rw[I];omega
      exact⟨_,AD hq2,(E.2 _ _ _ J (AD hq2)).keep hk⟩
     ·rename_i L;rw[if_neg L];obtain⟨v,X,hdd⟩:=q5 q y J;exact⟨v,X,hdd.keep hk⟩⟩
    refine fin _ (λad' cap' h'=> ?_) (λh'=>by rw[f]at h';cases h') hw;rw[f]at h';cases h';rcases had with hc0|hae
    ·have hn0:n=0:=O;subst hn0;simp[storeCells,World.setCells]
    ·subst hae;have hs2:=run_storeCells_cells (P:=P) z.g (z.o+off*j.size) (news.take (min m n*j.size)) 0 w (λq L=>by
       obtain⟨⟨u,hu⟩,_⟩:=h.heap.owns.cells b z F S (off*j.size+q) O;have he:(⟨z.g,z.o+off*j.size+0+q,none⟩:Addr)=z.at (off*j.size+q):=by simp;omega
       rw[he,hu];rfl) (λq L=>by
       obtain⟨_,hf⟩:=h.heap.owns.cells b z F S (off*j.size+q) O;have he:(⟨z.g,z.o+off*j.size+0+q,none⟩:Addr)=z.at (off*j.size+q):=by simp;omega
       rw[he,hf]) (λv X=>by
       obtain⟨q,L,rfl⟩:=List.getElem_of_mem X;exact(E.2 q _ _ (AD (by rw[E.1];exact L)) (AD L)).one)
     rw[q1];simpa using hs2
theorem jcJ(h:Rel M Z w0 ρ st a w)(hT:Dk P T){o:Oper}(hd: ∀d,o.dst=some d->d<a.tmps.size)(t:TypeId)(x:Operand)
  (ho:o.op= .call { callee:= .builtin .clear,args:= #[x],argTypes:= #[t] }) {st':St} {i:TI} {e:Nat} {j:TI} {c:C} {z:List D}
  (hi:T t=some i) (L:i.sl=some e) (hj:T e=some j) (hc:st.evC x=some c) (hz:j.zero.mapM (toD (λ_=>false) st.h 4)=some z) (f:clearTo j z o.dst st c=some st'):StepOk P M Z w0 o st' a w:=by
 obtain⟨info,dd,ht⟩:=Be (hT t i hi);obtain⟨infe,de,I⟩:=Be (hT e j hj);obtain⟨zv,hzv,hzc⟩:=I.zero;have J: ∀{w:World} (ρ:AE),RepV ρ w Z (.tup []) (.tuple #[]):=λρ=>⟨[],rfl,rfl,O1⟩
 unfold clearTo at f;split at f
 case h_3=>cases f
 case h_1=>
  cases f;have p:a.eval x= .slice none 0 0:=h.evC hc;exact .val h hd (x:= .tuple #[]) (by simp[execOp,ho,resolve,invoke,builtin,aG,run_underlying (ht.slice L),p]) (J ρ)
 case h_2 b off n=>
  rw[jzd]at f;obtain⟨k,hk,f⟩:=f;split at f
  case h_2=>cases f
  case h_1 sz K app=>
   split at f
   case isFalse=>cases f
   case isTrue S=>
    cases f;obtain⟨rfl,Q⟩:=S;obtain⟨ow,F,hroom,hcase⟩:=h.evC hc;obtain⟨E,ho2,hr⟩:=h.heap.rep b _ hk;obtain rfl:E=ow:=Bi (ho2.symm.trans F);obtain⟨q1,q2,q3,q4,q5⟩:=hr;have hzr:RepL (RepC ρ w Z) j.zero zv.cells.toList:=Ep hzc;have hzs:zv.cells.size=j.size:=by have:=hzr.1;simp at this;rw[<-this,I.zlen]
    obtain⟨W,hm2⟩:=Dl hz;have hers:ersd (λ_=>false) ρ=ρ:=by funext q;simp[ersd]
    have hdz:RepL (RepD w (Ar ρ Z)) z zv.cells.toList:=by
     refine⟨W.trans hzr.1,λq y v hy hv=> ?_⟩;have G:q<j.zero.length:=by rw[<-W];exact(jzg.1 hy).1
     obtain⟨y',hy',hf⟩:=hm2 q _ (AD G);rw[hy]at hy';cases hy';have:=EP h (λ_=>false) 4 _ v _ (hzr.2 q _ v (AD G) hv) hf;rwa [hers]at this
    have l:=Rp hdz n;generalize hnw:(Array.range (n*zv.cells.size)).map (zv.cells[· %zv.cells.size]!)=news at l;have hzl:z.length=j.size:=by rw[W,I.zlen]
    have H:(rep n z).length=n*j.size:=by rw[Hp,hzl]
    have hvl:news.toList.length=n*j.size:=by rw[<-l.1,H]
    have N:off*j.size+n*j.size<=K.length:=by rw[Nat.add_mul]at Q;exact Q
    rcases hcase with⟨X,p,rfl,rfl⟩|⟨X,ad,cap,p,hnc,hcm,had,_⟩
    ·have Y:splice (0*j.size) (rep 0 z) K=K:=by simp[splice,rep]
     rw[Y];refine .new hd (x:= .tuple #[]) (by simp[execOp,ho,resolve,invoke,builtin,aG,run_underlying (ht.slice L),p]) (h.congr (s':=st.blk b (.row j.size K app)) (λ_=>rfl) λq=> ?_) (J ρ);simp only[St.blk];by_cases e:q=b
     ·subst e;rw[Bt,hk]
     ·rw[BD e,BR e]
    ·by_cases hn0:n=0
     ·subst hn0;have Y:splice (off*j.size) (rep 0 z) K=K:=by simp[splice,rep]
      rw[Y];refine .new hd (x:= .tuple #[]) (by simp[execOp,ho,resolve,invoke,builtin,aG,run_underlying (ht.slice L),p]) (h.congr (s':=st.blk b (.row j.size K app)) (λ_=>rfl) λq=> ?_) (J ρ);simp only[St.blk];by_cases e:q=b
      ·subst e;rw[Bt,hk]
      ·rw[BD e,BR e]
     ·replace X:E.gone=false:=q4.2.trans X;have r:off*j.size+news.toList.length<=E.room*E.sz:=by rw[hvl,q1];omega
      have hw:=h.write F X (off:=off*j.size) (vs:=news.toList) r (b:= .row j.size (splice (off*j.size) (rep n z) K) app) λhk=>⟨q1,q2,by
       rw[Zi _ _ _ (by rw[H];exact N)];exact q3,q4,λq y hy=>by
       rw[GI h F X r,hvl];rw[Df _ _ _ (by rw[H];exact N),H]at hy;split at hy
       ·rename_i G;rw[if_pos G];have hq2:q - off*j.size<news.toList.length:=by rw[hvl];omega
        exact⟨_,AD hq2,(l.2 _ _ _ hy (AD hq2)).keep hk⟩
       ·rename_i G;rw[if_neg G];obtain⟨v,hv,hdd⟩:=q5 q y hy;exact⟨v,hv,hdd.keep hk⟩⟩
      rcases had with hc0|hae
      ·omega
      ·subst hae;have hs2:=run_storeCells_cells (P:=P) E.g (E.o+off*j.size) news.toList 0 w (λq G=>by
         obtain⟨⟨u,hu⟩,_⟩:=h.heap.owns.cells b E F X (off*j.size+q) O;have L:(⟨E.g,E.o+off*j.size+0+q,none⟩:Addr)=E.at (off*j.size+q):=by simp;omega
         rw[L,hu];rfl) (λq G=>by
         obtain⟨_,hf⟩:=h.heap.owns.cells b E F X (off*j.size+q) O;have L:(⟨E.g,E.o+off*j.size+0+q,none⟩:Addr)=E.at (off*j.size+q):=by simp;omega
         rw[L,hf]) (λv hv=>by
         obtain⟨q,G,rfl⟩:=List.getElem_of_mem hv;exact(l.2 q _ _ (AD (by rw[l.1];exact G)) (AD G)).one)
       refine .new hd (x:= .tuple #[]) ?_ hw (J ρ);have hzz:Builtin.zeroCells zv.cells n=news:=hnw;have hne: ∀m,n≠m+0\/n=m:=λm=>O;rw[q1]at p;simp only[Nat.add_zero]at hs2;cases n with
       |zero=>exact absurd rfl hn0
       |succ n=>simp[execOp,ho,resolve,invoke,builtin,aG,run_underlying (ht.slice L),p,zeroValue,typeInfo,I.inf,hzv,hzz,Own.at,hs2]
theorem jkH(h:Rel M Z w0 ρ st a w)(v:Dk P T){o:Oper}(l: ∀d,o.dst=some d->d<a.tmps.size){k:St}(f:DH T o st=some k):StepOk P M Z w0 o k a w:=by
 unfold DH at f;split at f
 ·grind[jjJ]
 ·grind[N2]
 ·exact N2 h l _ (.inr ‹_›) f
 ·grind[Y1]
 ·grind[jbP]
 ·grind[ZB]
 ·grind[jb6]
 ·grind[XX]
 ·grind[XG]
 ·grind[jae]
 ·grind[U4]
 ·grind[jcb,Qu]
 ·grind[jhW]
 ·grind[jjK]
 ·grind[YU]
 ·grind[jbg]
 ·grind[jeR]
 ·grind[jgk]
 ·grind[jd5]
 ·grind[jgX]
 ·grind[jeN]
 ·grind[VS]
 ·grind[ZY]
 ·rename_i b args i q;unfold FK at f;split at f
  ·rename_i t x m j;have g:i= #[t]:=O3;have e:args= #[x]:=O3;grind[jj7]
  ·rename_i t p x y m j;have g:i= #[t,p]:=O3;have e:args= #[x,y]:=O3;grind[aD,jjn,WR]
  ·rename_i t p x y m j;have g:i= #[t,p]:=O3;have e:args= #[x,y]:=O3;subst g;subst e;simp only[jzd]at f;grind[aD,jhz]
  ·rename_i x r j;have e:args=(x::r).toArray:=O3;subst e;exact UO h l false x r i q f
  ·rename_i t x m j;have g:i= #[t]:=O3;have e:args= #[x]:=O3;grind[aD,jcJ]
  ·rename_i x r j;have e:args=(x::r).toArray:=O3;subst e;exact UO h l true x r i q f
  ·rename_i t x m j;have g:i= #[t]:=O3;have e:args= #[x]:=O3;grind[jhl]
  ·cases f
 ·grind[jgc]
 ·exact ji5 h l _ ‹_› f
 ·grind[X5]
 ·grind[jaE]
 ·grind[Y2]
 ·grind[XE]
 ·grind[jiK]
 ·cases f
end
end Go.Va
namespace Go.Va
open _root_.Option renaming bind_eq_some_iff → aD
open _root_.List renaming all_eq_true → aG, mem_of_getElem? → aH
open Go.RowKit
variable [DrC]
variable [Gv]
variable{w':World}{k:Nat}{fl:Bool}{c:C}{g:Addr->Prop}{e:TI}{o:Own}{d:Option Nat}{s':St}
section
variable {P:Program} {T:AH} {M Z:Addr->Prop} {w0 w:World} {ρ:AE} {st:St} {a:Act}
theorem GP{Z':Addr->Prop}{x:D}{v:Value}(a:x.flat=true)(h:RepD w Z x v):RepD w' Z' x v:=by
 cases h with
 |int k n=>exact .int k n
 |bool b=>exact .bool b
 |str s=>exact .str s
 |nilFn=>exact .nilFn
 |nilPtr=>exact .nilPtr
 |lit _ h=>exact .lit _ h
 |any _ h=>exact .any _ h
 |nn t x=>exact .nn t x
 |slice=>cases a
 |snil=>cases a
 |ref=>cases a
 |iface=>cases a
 |fn=>cases a
theorem PR{b a:AE}{f:Addr->Prop}(tr: ∀x v,(fl=true->D.flat x=true)->RepD w' (Ar b f) x v->RepD w' (Ar a Z) x v)(g: ∀o,b k=some o->a k=some o)
  {c:RC} {v:Value} (e:fl=true->c.flat=true) (h:RepC b w' f (c.imp k) v):RepC a w' Z (c.imp k) v:=by
 cases c with
 |d x=>exact tr x v e h
 |own l n j=>obtain⟨o,i,r⟩:=h;exact⟨o,g o i,r⟩
theorem PW{b a:AE}(tr: ∀x v,(fl=true->D.flat x=true)->RepD w' (Ar b g) x v->RepD w' (Ar a Z) x v)(i: ∀o,b k=some o->a k=some o)
  {u:RU} {v:Value} (f:fl=true->u.flat=true) (h:RepU b w' g (u.imp k) v):RepU a w' Z (u.imp k) v:=by
 cases u with
 |c x=>exact PR tr i f h
 |agg y=>
  obtain⟨t,rfl,l,m⟩:=h;refine⟨t,rfl,l,λj c v e r=> ?_⟩;have q:=m j c v e r;simp only[Bf,jze]at e;obtain⟨w,p,rfl⟩:=e;refine PR tr i (λz=> ?_) q;grind[RU.flat,aG,aH]
theorem Lx{b a:AE}(tr: ∀x v,(fl=true->D.flat x=true)->RepD w' (Ar b g) x v->RepD w' (Ar a Z) x v)(i: ∀o,b k=some o->a k=some o)
  {r:R} {v:Value} (f:fl=true->r.flat=true) (h:RepV b w' g (r.imp k) v):RepV a w' Z (r.imp k) v:=by
 cases r with
 |u x=>exact PW tr i f h
 |tup E=>
  obtain⟨w,rfl,l,m⟩:=h;refine⟨w,rfl,l,λj c v e t=> ?_⟩;have q:=m j c v e t;simp only[Bf,jze]at e;obtain⟨y,p,rfl⟩:=e;refine PW tr i (λz=> ?_) q;grind[R.flat,aG,aH]
theorem RC.rows_row{c:RC}{b:Blk}(h:b∈c.rows): ∃sz n cs,b= .row sz cs true/\c= .own sz n cs:=by
 cases c with
 |d x=>simp[RC.rows]at h
 |own sz n cs=>simp[RC.rows]at h;grind
theorem RU.rows_row{c:RU}{b:Blk}(h:b∈c.rows): ∃sz cs,b= .row sz cs true/\(c.flat=true->cs.all D.flat=true):=by
 cases c with
 |c x=>obtain⟨sz,n,cs,a,rfl⟩:=RC.rows_row h;exact⟨sz,cs,a,λh=>h⟩
 |agg l=>
  simp only[RU.rows,List.mem_flatMap]at h;obtain⟨x,e,h⟩:=h;obtain⟨sz,n,cs,a,rfl⟩:=RC.rows_row h;refine⟨sz,cs,a,λh=> ?_⟩;simp only[RU.flat,jzy]at h;exact h _ e
theorem R.rows_row{c:R}{b:Blk}(h:b∈c.rows): ∃sz cs,b= .row sz cs true/\(c.flat=true->cs.all D.flat=true):=by
 cases c with
 |u x=>exact RU.rows_row h
 |tup l=>
  grind[R.rows,RU.rows_row,R.flat,aG]
theorem jhQ(h:Rel M Z w0 ρ st a w){dst:Option Nat}(T: ∀d,dst=some d->d<a.tmps.size){ids:List Nat}{f:R}{v:Value}(W:Ext w w')(hr:Hb w w' (Ar (AJ ids ρ) Z) f v):
  ∃S,Rel M Z w0 S (st.back dst ids f) (a.put dst v) w':=by
 obtain⟨F,o,E,H⟩:=hr;obtain⟨J,t⟩:=H (dst.getD 0);obtain⟨g,h1,hout⟩: ∃g,Rel M Z w0 g (if f.flat then st else st.freeze ids) a w/\(f.flat=false-> ∀l,Ar g Z l->Ar (AJ ids ρ) Z l):=by
  cases K:f.flat with
  |true=>grind
  |false=>exact⟨AJ ids ρ,by simpa using h.freeze ids,λ_ _ h=>h⟩
 cases k:f.rows with
 |nil=>
  rw[k]at J t;have tr: ∀x v,(f.flat=true->D.flat x=true)->RepD w' (Ar (B3 (dst.getD 0) [] o) (Ar (AJ ids ρ) Z)) x v->RepD w' (Ar g Z) x v:=λx v K m=>by
   cases p:f.flat with
   |true=>grind[GP]
   |false=>exact m.keep (Keep.mono λl h=> .inl (hout p l h))
  have:=Lx tr (λq G=>by cases G) (λh=>h) J;refine⟨g,?_⟩;have hp:=(h1.ext W).put (dst:=dst) T this;grind[St.back]
 |cons b r=>
  rw[k]at J t F;obtain⟨I,y,rfl,hcs⟩:=R.rows_row (c:=f) (b:=b) (by rw[k];simp);have P:B3 (dst.getD 0) (.row I y true::r) o (dst.getD 0)=some o:=by simp[B3]
  obtain⟨q,G,Y⟩:=t.rep (dst.getD 0) (.row I y true) (by simp[Bt]);obtain rfl:q=o:=O3;obtain⟨q1,q2,q3,q4,q5⟩:=Y;have X: ∀l,(f.flat=false)->Ar (BW g (dst.getD 0) q) Z l->Ar (B3 (dst.getD 0) (.row I y true::r) q) (Ar (AJ ids ρ) Z) l:=λl p ho=>by
   rcases ho with hz|⟨j,oj,L,N⟩
   ·exact .inl (.inl hz)
   ·by_cases e:j=dst.getD 0
    ·subst e;rw[Cd]at L;cases L;exact .inr ⟨_,_,P,N⟩
    ·rw[Gn _ _ e]at L;exact .inl (hout p l (.inr O3))
  have tr: ∀x v,(f.flat=true->D.flat x=true)->RepD w' (Ar (B3 (dst.getD 0) (.row I y true::r) q) (Ar (AJ ids ρ) Z)) x v->RepD w' (Ar (BW g (dst.getD 0) q) Z) x v:=λx v K m=>by
   cases p:f.flat with
   |true=>grind[GP]
   |false=>exact m.keep (by grind[Keep.mono])
  have z:=(h1.purge (dst.getD 0)).add (i:=dst.getD 0) (o:=q) (b:= .row I y true) (BZ _ _ _) (λl t=>Nat.le_trans h1.fr.size (E l t)) O3 W (t.owns.cells _ _ P) (t.owns.lim _ _ P) ⟨q1,q2,q3,q4,λj x Q=>by
    obtain⟨u,hu,m⟩:=q5 j x Q;refine⟨u,hu,tr x u (λK=> ?_) m⟩;grind⟩ (λhm=>by obtain⟨hm1,hm2⟩:=hm;grind)
  have:=Lx tr (by grind[Cd]) (λh=>h) J;refine⟨BW g (dst.getD 0) q,?_⟩;have hp:=Rel.put (dst:=dst) z T this;change Rel M Z w0 (upd (upd g (dst.getD 0) none) (dst.getD 0) (some q)) _ _ _;grind[St.back,St.new,Blk.on]
theorem E9(h:Rel M Z w0 ρ st a w)(ids:List Nat){E:List U}{H:List A}{vals:List Value}(z:RepL (RepU ρ w Z) E vals)(P:E.mapM (U.toA ids st.h)=some H):RepL (A.rep w (Ar (AJ ids ρ) Z)) H vals:=by
 obtain⟨r,G⟩:=Dl P;refine⟨r.trans z.1,λj S v I F=> ?_⟩;have o:j<E.length:=by rw[<-r];exact(jzg.1 I).1
 obtain⟨y,p,b⟩:=G j _ (AD o);rw[I]at p;cases p;have t:=z.2 j _ v (AD o) F;generalize E[j]=u at b t;have q: ∀{k:List C} {l:List D} {i:List Value},k.mapM (toD (ids.contains ·) st.h 4)=some l->RepL (RepC ρ w Z) k i->RepL (RepD w (Ar (AJ ids ρ) Z)) l i:=λ{k l i} e m=>by
  obtain⟨r,G⟩:=Dl e;refine⟨r.trans m.1,λj x v J z=> ?_⟩;have o:j<k.length:=by rw[<-r];exact(jzg.1 J).1
  obtain⟨y,p,Q⟩:=G j _ (AD o);rw[J]at p;cases p;exact EP h _ 4 _ v _ (m.2 j _ v (AD o) z) Q
 cases u with
 |c K=>
  simp only[U.toA,jze]at b;obtain⟨d,e,rfl⟩:=b;exact EP h _ 4 K _ d t e
 |agg k=>
  simp only[U.toA,jze]at b;obtain⟨l,e,rfl⟩:=b;obtain⟨i,g,m⟩:=t;exact⟨i,g,q e m⟩
 |clo f k=>
  simp only[U.toA,jze]at b;obtain⟨l,e,rfl⟩:=b;obtain⟨i,g,m⟩:=t;obtain⟨L,N⟩:=q e m;rw[g];exact RepD.fn f l i L N
theorem M5(h:Rel M Z w0 ρ st a w){i:List Operand}{g:List U}(l:i.mapM st.evU=some g):RepL (RepU ρ w Z) g (i.map a.eval):=by
 obtain⟨o,p⟩:=Dl l;refine⟨by simpa using o,λj u v m e=> ?_⟩;simp only[Bf,jze]at e;obtain⟨x,b,rfl⟩:=e;obtain⟨y,f,k⟩:=p j x b;rw[m]at f;cases f;exact h.evU k
theorem Mp(h:Rel M Z w0 ρ st a w)(ids:List Nat){f:List Operand}{e:List U}{b:List A}(i:f.mapM st.evU=some e)(g:e.mapM (U.toA ids st.h)=some b):
  RepL (A.rep w (Ar (AJ ids ρ) Z)) b (f.map a.eval):=E9 h ids (M5 h i) g
theorem jdr{α β:Type}{f:α->Option β}{a b:List α}{r:List β}(h:(a++b).mapM f=some r): ∃e g,r=e++g/\a.mapM f=some e/\b.mapM f=some g:=by
 simp only[List.mapM_append,Option.pure_def,Option.bind_eq_bind,jzd,Option.some.injEq]at h;grind
def Bj(ids:List Nat)(ρ:AE):AE:=λj=>if ids.contains j then ρ j else none
theorem A9{ids:List Nat}{j:Nat}(h:Bj ids ρ j=some o):j∈ids/\ρ j=some o:=by
 grind[Bj]
theorem D5{ids:List Nat}{j:Nat}(h:j∈ids):Bj ids ρ j=ρ j:=by simp_all[Bj,if_pos]
theorem TW(ids:List Nat)(f:Addr):Ar (Bj ids ρ) (Ar (AJ ids ρ) Z) f↔Ar ρ Z f:=by
 constructor
 ·rintro (h|⟨j,o,a,b⟩)
  ·exact CD h
  ·exact .inr ⟨j,o,(A9 a).2,b⟩
 ·rintro (h|⟨j,o,a,b⟩)
  ·exact .inl (.inl h)
  ·by_cases e:j∈ids
   ·exact .inr ⟨j,o,(D5 e).trans a,b⟩
   ·exact .inl (.inr ⟨j,o,by simp[AJ,ersd,e,a],b⟩)
theorem repD_rhoR{ids:List Nat}{x:D}{v:Value}:RepD w (Ar (Bj ids ρ) (Ar (AJ ids ρ) Z)) x v↔RepD w (Ar ρ Z) x v:=by
 have:Ar (Bj ids ρ) (Ar (AJ ids ρ) Z)=Ar ρ Z:=funext (by grind[TW]);rw[this]
theorem E7{ids:List Nat}{v:Value}(hi: ∀i,c.id? =some i->i∈ids)(h:RepC ρ w Z c v):RepC (Bj ids ρ) w (Ar (AJ ids ρ) Z) c v:=by
 cases c with
 |d x=>exact repD_rhoR.2 h
 |nl=>exact h
 |bad=>exact h
 |sl i b n=>obtain⟨o,a,r⟩:=h;exact⟨o,(D5 (hi i rfl)).trans a,r⟩
 |ptr i b=>obtain⟨o,a,r⟩:=h;exact⟨o,(D5 (hi i rfl)).trans a,r⟩
 |mp q i=>obtain⟨o,a,r⟩:=h;exact⟨o,(D5 (hi i rfl)).trans a,r⟩
theorem Lj{ids:List Nat}{v:Value}(h:RepC (Bj ids ρ) w (Ar (AJ ids ρ) Z) c v):RepC ρ w Z c v:=by
 cases c with
 |d x=>exact repD_rhoR.1 h
 |nl=>exact h
 |bad=>exact h
 |sl i b n=>obtain⟨o,a,r⟩:=h;exact⟨o,(A9 a).2,r⟩
 |ptr i b=>obtain⟨o,a,r⟩:=h;exact⟨o,(A9 a).2,r⟩
 |mp q i=>obtain⟨o,a,r⟩:=h;exact⟨o,(A9 a).2,r⟩
theorem OV{ids:List Nat}{u:U}{v:Value}(hi:DB ids u.all)(h:RepU ρ w Z u v):RepU (Bj ids ρ) w (Ar (AJ ids ρ) Z) u v:=by
 cases u with
 |c x=>exact E7 (hi x (by simp[U.all])) h
 |agg k=>obtain⟨i,rfl,b,e⟩:=h;exact⟨i,rfl,b,λj x v a g=>E7 (hi x (BY a)) (e j x v a g)⟩
 |clo f k=>obtain⟨i,rfl,b,e⟩:=h;exact⟨i,rfl,b,λj x v a g=>E7 (hi x (BY a)) (e j x v a g)⟩
theorem Jb{ids:List Nat}{b:Blk}(hi:KW ids b)(h:RepB ρ w Z o b):RepB (Bj ids ρ) w (Ar (AJ ids ρ) Z) o b:=by
 cases b with
 |row t l app=>obtain⟨g,i,k,p,r⟩:=h;exact⟨g,i,k,p,λj x m=>by obtain⟨v,e,a⟩:=r j x m;exact⟨v,e,repD_rhoR.2 a⟩⟩
 |box l=>obtain⟨g,i,k,p⟩:=h;exact⟨g,i,k,λj x m=>by obtain⟨v,e,q,a⟩:=p j x m;exact⟨v,e,q,E7 (hi x O3) a⟩⟩
 |fbox f l=>obtain⟨g,i,k,v,e,a⟩:=h;exact⟨g,i,k,v,e,OV (u:= .clo f l) hi a⟩
 |mp x=>exact h
 |gh l=>exact hi.elim
theorem jiW{ids:List Nat}{b:Blk}(h:RepB (Bj ids ρ) w (Ar (AJ ids ρ) Z) o b):RepB ρ w Z o b:=by
 cases b with
 |row z i app=>obtain⟨a,e,g,p,t⟩:=h;exact⟨a,e,g,p,λj x l=>by obtain⟨v,k,q⟩:=t j x l;exact⟨v,k,repD_rhoR.1 q⟩⟩
 |box i=>obtain⟨a,e,g,p⟩:=h;exact⟨a,e,g,(by grind[Lj])⟩
 |fbox f i=>obtain⟨a,e,g,v,k,y,rfl,m⟩:=h;exact⟨a,e,g,_,k,y,rfl,m.1,λj x u l r=>Lj (m.2 j x u l r)⟩
 |mp x=>exact h
 |gh i=>obtain⟨a,e,g⟩:=h;exact⟨a,e,(by grind[Lj])⟩
theorem Jh{ids:List Nat}{v:Value}(h:RepC ρ w Z c v):RepC (Bj ids ρ) w (Ar (AJ ids ρ) Z) (c.on (L7 ids)) v:=by
 have one:one v:=h.one;have a:(∀i,c.id? =some i->i∈ids)->RepC (Bj ids ρ) w (Ar (AJ ids ρ) Z) c v:=λhi=>E7 hi h;cases c with
 |d x=>exact a λi hi=>(by cases hi)
 |nl=>exact h
 |bad=>exact h
 |sl i f n=>
  simp only[C.on,L7];split
  ·rename_i e;exact a λk b=>by cases b;simpa using e
  ·exact one
 |ptr i f=>
  simp only[C.on,L7];split
  ·rename_i e;exact a λk b=>by cases b;simpa using e
  ·exact one
 |mp q i=>
  simp only[C.on,L7];split
  ·rename_i e;exact a λk b=>by cases b;simpa using e
  ·exact one
theorem T0{ids:List Nat}{cs:List C}{vs:List Value}(h:RepL (RepC ρ w Z) cs vs):RepL (RepC (Bj ids ρ) w (Ar (AJ ids ρ) Z)) (cs.map (C.on (L7 ids))) vs:=by
 refine⟨by simpa using h.1,λj x v a b=> ?_⟩;rw[Bf,jze]at a;obtain⟨y,e,rfl⟩:=a;exact Jh (h.2 j y v e b)
theorem PG{ids:List Nat}{u:U}{v:Value}(h:RepU ρ w Z u v):RepU (Bj ids ρ) w (Ar (AJ ids ρ) Z) (u.on (L7 ids)) v:=by
 cases u with
 |c x=>exact Jh h
 |agg g=>obtain⟨b,e,a⟩:=h;exact⟨b,e,T0 a⟩
 |clo f g=>obtain⟨b,e,a⟩:=h;exact⟨b,e,T0 a⟩
theorem jhI{ids:List Nat}{b:Blk}(h:RepB ρ w Z o b):RepB (Bj ids ρ) w (Ar (AJ ids ρ) Z) o (b.on (L7 ids)):=by
 cases b with
 |row q a app=>exact Jb (b:= .row q a app) trivial h
 |box a=>
  obtain⟨g,i,k,t⟩:=h;refine⟨g,by simpa using i,k,λj x e=> ?_⟩;rw[Bf,jze]at e;obtain⟨y,p,rfl⟩:=e;grind[Jh]
 |fbox f a=>obtain⟨g,i,k,v,m,l⟩:=h;exact⟨g,i,k,v,m,PG (u:= .clo f a) l⟩
 |mp x=>exact h
 |gh a=>
  obtain⟨g,i,k⟩:=h;refine⟨g,i,λj x e u r=> ?_⟩;rw[Bf,jze]at e;obtain⟨y,p,rfl⟩:=e;grind[Jh]
theorem HQ{α:Type}(k:Nat)(a:List (Nat×α)): ∀b:List (Nat×α),lk k (b++a)=(lk k b).or (lk k a)
 |[]=>rfl
 |(j,v)::r=>by
  simp only[List.cons_append,lk];split
  ·rfl
  ·exact HQ k a r
theorem Fr.into{M f:Addr->Prop}{w0 w:World}(h:Fr M w0 w)(k:Fr f w w')(l: ∀a,f a->M a\/w0.heap.size<=a.block):Fr M w0 w' where
 os:=k.os.trans h.os
 drawn:=h.drawn.trans k.drawn
 tape:=k.tape.trans h.tape
 output:=k.output.trans h.output
 size:=Nat.le_trans h.size k.size
 cell:=λa v b g=>k.cell a v (λi=>by
  rcases l a i with h1|h1
  ·exact b h1
  ·have:=World.block_lt_of_cell? w0 a g;omega) (h.cell a v b g)
 frz:=λa b e=>(k.frz a O3 (Nat.lt_of_lt_of_le e h.size)).trans (h.frz a b e)
 blk:=λj e b=>(k.blk j (Nat.lt_of_lt_of_le e h.size) O3).trans (h.blk j e b)
theorem Fr.mono{M M':Addr->Prop}{w0 w:World}(h:Fr M w0 w)(g: ∀a,M a->M' a):Fr M' w0 w where
 os:=h.os
 drawn:=h.drawn
 tape:=h.tape
 output:=h.output
 size:=h.size
 cell:=λa v e f=>h.cell a v O3 f
 frz:=λa e b=>h.frz a O3 b
 blk:=λj b e=>h.blk j b O3
theorem G0{b:Addr->Prop}{w:World}(f:Fr b w w'){g:Nat}(a: ∀e:Addr,e.block=g-> ¬b e){y:Obj}(h:w.heap[g]? =some y):w'.heap[g]? =some y:=
 (f.blk g O3 a).trans h
theorem jbs(h:Rel M Z w0 ρ st a w){dst:Option Nat}(hd: ∀d,dst=some d->d<a.tmps.size){ids:List Nat}{q:R}{v:Value}{r:List (Nat×Blk)}(S:q.rows=[])(z: ∀i∈ids,∀o,ρ i=some o-> ¬o.mp)
  (I:Fr (Cells (Bj ids ρ)) w w') (Y:Heap (Bj ids ρ) w' (Ar (AJ ids ρ) Z) r) (H:RepV (λ_=>none) w' (Ar (Bj ids ρ) (Ar (AJ ids ρ) Z)) (q.imp 0) v):
  Rel M Z w0 ρ (st.backW dst ids r q) (a.put dst v) w':=by
 have K: ∀m,Cells (Bj ids ρ) m->Ar ρ Z m:=λm ⟨j,o,F,f⟩=> .inr ⟨j,o,(A9 F).2,f⟩;have hk:Keep w w' (Ar ρ Z) (Ar ρ Z):=λm x hn H=>⟨I.cell m x O3 H,hn⟩
 have ht:Cf ρ ρ w w' Z Dt:=λc v hc=>by rw[C.on_id];exact hc.keep hk λ_ _=>rfl
 have J: ∀j o,j∉ids->ρ j=some o->o.gone=false-> ∀k,k<o.room*o.sz->w'.cell? (o.at k)=w.cell? (o.at k)/\w'.frozen? (o.at k)=w.frozen? (o.at k):=λj o F f E k l=>by
  obtain⟨⟨u,T⟩,hf⟩:=h.heap.owns.cells j o f E k l;suffices z: ¬Cells (Bj ids ρ) (o.at k) from⟨by rw[T];exact I.cell _ u z T,I.frz _ z (World.block_lt_of_cell? w _ T)⟩
  rintro⟨i,X,hi,N⟩;obtain⟨h1,r⟩:=A9 hi;exact h.heap.owns.apart j i o X f r O3 _ (Own.has_at E l) N
 have hobj: ∀i o,ρ i=some o->o.mp-> ∀y:Obj,w.heap[o.g]? =some y->w'.heap[o.g]? =some y:=λi o hi hm y hy=>G0 I (λm e ⟨j,X,F,f⟩=>by
  obtain⟨h1,r⟩:=A9 F;exact h.heap.owns.apart j i X o r hi O3 m f (ER hm e)) hy
 have G:Rel M Z w0 ρ { st with h:=r++Ds (ids.contains ·) st.h } a w':=
  {fr:=h.fr.into I λm ⟨j,o,F,f⟩=>h.mine j o m (A9 F).2 f
   heap:=⟨⟨λj o f E k l=>by
     by_cases e:j∈ids
     ·exact Y.owns.cells j o ((D5 e).trans f) E k l
     ·obtain⟨s1,s2⟩:=J j o e f E k l;rw[s1,s2];exact h.heap.owns.cells j o f E k l,h.heap.owns.apart,h.heap.owns.lim⟩,λj b p=>by
    simp only at p;rw[HQ]at p;cases P:lk j r with
    |some b2=>
     rw[P]at p;cases p;obtain⟨o,f,Q⟩:=Y.rep j _ P;exact⟨o,(A9 f).2,jiW Q⟩
    |none=>
     rw[P]at p;simp only[Option.none_or]at p;rw[FZ]at p;split at p
     ·cases p
     ·rename_i e;have e:j∉ids:=by simpa using e
      obtain⟨o,f,Q⟩:=h.heap.rep j b p;have:=Q.turn ht hk O3 O3;grind[Blk.on_id]⟩
   mine:=h.mine
   out:=h.out
   mz:=h.mz
   tmps:=λt v H=>by
    have:=(h.tmps t v H).turn ht;rwa [V.on_id]at this
   defers:=h.defers
   mps:=h.mps.to O3 }
 have W:RepV ρ w' Z (q.imp 0) v:=Lx (fl:=false) (λx v _ L=>L.keep (Keep.mono λm f=> .inl ((TW ids m).2 f))) O1 O1 H;exact G.put hd W
theorem IN{α:Type}{l:List (Nat×α)}: ∀{a:List (Nat×α)},AW l a-> ∀k v,lk k a=some v->lk k l=some v
 |[],_,k,v,h=>by cases h
 |(j,u)::r,⟨e,b⟩,k,v,h=>by
  unfold lk at h;split at h
  ·grind
  ·exact IN b k v h
def TrLe(s' s:St):Prop:= ∀x r,lk YS s'.t=some (.tr x r)->lk YS s.t=some (.tr x r)
theorem TrLe.refl(s:St):TrLe s s:=λ_ _ h=>h
theorem TrLe.trans{a b e:St}(h:TrLe a b)(k:TrLe b e):TrLe a e:=λx r f=>k x r (h x r f)
theorem TrLe.put{s:St}{v:V}(a: ∀k,d=some k->k<YS):TrLe (s.put d v) s:=λx r h=>by
 cases d with
 |none=>exact h
 |some k=>
  simp only[St.put]at h;rw[BD O3,BR O3]at h;exact h
theorem TrLe.on{s:St}(g:Nat->C->C):TrLe (s.on g) s:=λx r h=>by
 simp only[St.on,BN,jze]at h;obtain⟨v,b,a⟩:=h;cases v with
 |u=>cases a
 |tup=>cases a
 |tr f e=>grind[V.on,V.tr.injEq]
theorem TrLe.hp{s:St}{h:List (Nat×Blk)}:TrLe { s with h:=h } s:=λ_ _ h=>h
theorem TrLe.purge{s:St}(i:Nat):TrLe (s.purge i) s:=λx r h=>TrLe.on _ x r h
theorem TrLe.purges: ∀(l:List Nat) {s:St},TrLe (purges l s) s
 |[],s=>TrLe.refl s
 |i::l,s=>(TrLe.purges l (s:=s.purge i)).trans (TrLe.purge i)
theorem TrLe.blk{s:St}(i:Nat)(b:Blk):TrLe (s.blk i b) s:=λ_ _ h=>h
theorem TrLe.drop{s:St}(i:Nat):TrLe (s.drop i) s:=λ_ _ h=>h
theorem TrLe.new{s:St}(i:Nat)(b:Blk):TrLe (s.new i b) s:=λx r h=>TrLe.purge i x r h
theorem TrLe.freezeK{s:St}(ok:Nat->Bool):TrLe (s.freezeK ok) s:=λx r h=>TrLe.on _ x r h
theorem TrLe.freeze{s:St}(ids:List Nat):TrLe (s.freeze ids) s:=by
 cases ids with
 |nil=>exact TrLe.refl s
 |cons i r=>exact TrLe.freezeK _
theorem TrLe.sealW{s:St}{ids:List Nat}{cs:List C}{ds:List D}(h:s.sealW ids cs=some (ds,s')):TrLe s' s:=by
 simp only[St.sealW,jze,Prod.mk.injEq]at h;obtain⟨_,_,_,rfl⟩:=h;exact TrLe.freeze ids
theorem TrLe.back{s:St}{ids:List Nat}{a:R}(b: ∀k,d=some k->k<YS):TrLe (s.back d ids a) s:=by
 grind[St.back,TrLe.put,TrLe,TrLe.refl,TrLe.freeze,TrLe.new]
theorem TrLe.backW{s:St}{ids:List Nat}{b:List (Nat×Blk)}{a:R}(e: ∀k,d=some k->k<YS):TrLe (s.backW d ids b a) s:=(TrLe.put e).trans TrLe.hp
theorem TrLe.backX{s:St}{ids b a:List Nat}{cs:List C}{e:List (Nat×Blk)}(f: ∀k,d=some k->k<YS):TrLe (s.backX d ids b a cs e) s:=
 (TrLe.put f).trans (TrLe.hp.trans ((TrLe.on _).trans ((TrLe.purges b).trans (TrLe.freeze a))))
theorem TrLe.backH{s:St}{ids g:List Nat}{b a:List C}{e:List (Nat×Blk)}{v:V}(f: ∀k,d=some k->k<YS):TrLe (s.backH d ids g b a e v) s:=(TrLe.put f).trans (TrLe.hp.trans (TrLe.on _))
theorem TrLe.mk{s:St}{b:Blk}{c:Nat->C}(a: ∀k,d=some k->k<YS)(h:mk d s b c=some s'):TrLe s' s:=by
 simp only[Va.mk,jze]at h;obtain⟨k,rfl,rfl⟩:=h;exact(TrLe.put a).trans (TrLe.new _ _)
theorem TrLe.rn{s:St}(i j:Nat):TrLe (s.rn i j) s:=by
 unfold St.rn;split
 ·exact TrLe.refl s
 ·split
  ·exact TrLe.refl s
  ·exact TrLe.hp.trans (TrLe.on _)
theorem TrLe.rns: ∀(l:List (Nat×Nat)) {s:St},TrLe (rns l s) s
 |[],s=>TrLe.refl s
 |(i,j)::l,s=>(TrLe.rns l (s:=s.rn i j)).trans (TrLe.rn i j)
theorem TrLe.le{a s:St}(h:a.le s):TrLe a s:=λx r b=>IN h.1 _ _ b
theorem TrLe.storeB{s:St}{b off:Nat}{v:List C}{k:Blk}(h:s.storeB b off v k=some s'):TrLe s' s:=by
 cases k with
 |box a=>grind[St.storeB,TrLe.blk]
 |fbox f a=>simp[St.storeB]at h
 |mp x=>simp[St.storeB]at h
 |gh x=>simp[St.storeB]at h
 |row g a app=>
  simp only[St.storeB,jzd]at h;obtain⟨p,e,h⟩:=h;split at h
  ·split at h<;>cases h;exact(TrLe.blk _ _).trans (TrLe.sealW e)
  ·cases h
theorem TrLe.store{s:St}{i:TI}{u:U}(h:s.store i c u=some s'):TrLe s' s:=by
 unfold St.store at h;split at h
 ·split at h
  ·simp only[jzd]at h;obtain⟨k,_,h⟩:=h;rcases Ro h with⟨_,_,_,_,_,_,rfl⟩|h
   ·exact TrLe.blk _ _
   ·exact TrLe.storeB h
  ·cases h
 ·cases h
theorem TrLe.appGo{s:St}{d:Nat}{cs:List D}{n:Nat}{news:List D}{m:Nat}(a:d<YS)(h:s.appGo e d cs n news m=some s'):TrLe s' s:=by
 unfold St.appGo at h;split at h<;>cases h;exact(TrLe.put O3).trans (TrLe.new _ _)
theorem TrLe.app{s:St}{d:Nat}{x:C}{news:List D}{m:Nat}(a:d<YS)(h:s.app e d x news m=some s'):TrLe s' s:=by
 unfold St.app at h;split at h
 ·exact TrLe.appGo a h
 ·simp only[jzd]at h;obtain⟨b,_,h⟩:=h;split at h
  ·split at h
   ·exact(TrLe.appGo a h).trans (TrLe.drop _)
   ·split at h
    ·exact(TrLe.appGo a h).trans (TrLe.drop _)
    ·cases h
  ·cases h
 ·cases h
theorem TrLe.copyTo{s:St}{i off n:Nat}{p:Nat×List D}{b:Blk}(a: ∀k,d=some k->k<YS)(h:copyTo e d i off n s p b=some s'):TrLe s' s:=by
 unfold Va.copyTo at h;split at h
 ·split at h<;>cases h;exact(TrLe.put a).trans (TrLe.blk _ _)
 ·cases h
theorem TrLe.clearTo{s:St}{j:TI}{z:List D}(a: ∀k,d=some k->k<YS)(h:clearTo j z d s c=some s'):TrLe s' s:=by
 unfold Va.clearTo at h;split at h
 ·grind[TrLe.put]
 ·simp only[jzd]at h;obtain⟨k,_,h⟩:=h;split at h
  ·split at h<;>cases h;exact(TrLe.put a).trans (TrLe.blk _ _)
  ·cases h
 ·cases h
theorem TrLe.builtin{T:AH}{b:Builtin}{f:List TypeId}{args:List Operand}{s:St}(a: ∀k,d=some k->k<YS)(h:FK T b f args d s=some s'):TrLe s' s:=by
 unfold FK at h;split at h
 ·simp only[jzd]at h;obtain⟨i,_,h⟩:=h;unfold G3 at h;split at h
  ·grind[TrLe.put]
  ·simp only[jzd,jze]at h;obtain⟨c,_,n,_,rfl⟩:=h;exact TrLe.put a
 ·simp only[jzd]at h;obtain⟨k,g,i,_,e,_,j,_,c,_,x,_,h⟩:=h;split at h
  ·grind[aD,TrLe.app]
  ·rw[jzd]at h;obtain⟨m,_,h⟩:=h;unfold J0 at h;split at h
   ·split at h<;>cases h;exact(TrLe.put O3).trans (TrLe.new _ _)
   ·grind[TrLe.app]
   ·cases h
 ·simp only[jzd]at h;grind[aD,TrLe.copyTo]
 ·simp only[jzd,jze]at h;obtain⟨p,_,l,_,v,_,rfl⟩:=h;exact TrLe.put a
 ·grind[aD,TrLe.clearTo]
 ·simp only[jzd,jze]at h;obtain⟨p,_,l,_,v,_,rfl⟩:=h;exact TrLe.put a
 ·grind[aD,Ko,TrLe.put]
 ·cases h
theorem TrLe.step{T:AH}{o:Oper}{s:St}(a: ∀k,o.dst=some k->k<YS)(h:DH T o s=some s'):TrLe s' s:=by
 unfold DH at h;split at h
 case h_1=>
  unfold GH at h;simp only[jzd,jze]at h;obtain⟨k,l,i,_,e,_,j,_,rfl⟩:=h;exact(TrLe.put O3).trans (TrLe.new _ _)
 case h_8=>
  simp only[jzd]at h;obtain⟨_,_,_,_,_,_,_,_,h⟩:=h;unfold FG at h;split at h
  ·simp only[jzd]at h;obtain⟨g,_,h⟩:=h;split at h
   ·exact TrLe.mk a h
   ·simp only[jzd]at h;obtain⟨p,b,h⟩:=h;exact(TrLe.mk a h).trans (TrLe.sealW b)
  ·cases h
 case h_10=>
  simp only[jzd,jze]at h;obtain⟨_,_,_,_,_,_,_,f,rfl⟩:=h;exact(TrLe.put a).trans (TrLe.store f)
 case h_12=>
  split at h
  ·simp only[jzd,jze]at h;obtain⟨_,_,_,_,rfl⟩:=h;exact TrLe.put a
  ·simp only[jzd,jze]at h;obtain⟨_,_,_,_,_,_,rfl⟩:=h;exact TrLe.put a
 case h_16=>
  simp only[jzd]at h;grind[FC,aD,TrLe.mk]
 case h_18=>
  simp only[jzd]at h;obtain⟨_,_,_,_,_,_,_,_,h⟩:=h;split at h
  ·cases h
  ·simp only[jze]at h;obtain⟨_,_,rfl⟩:=h;exact TrLe.put a
 case h_5=>
  grind[aD,TrLe.mk]
 case h_6=>
  grind[aD,TrLe.mk]
 case h_23=>
  split at h
  ·simp only[jze]at h;obtain⟨_,_,rfl⟩:=h;exact TrLe.put a
  ·cases h
 case h_24=>exact TrLe.builtin a h
 case h_32=>cases h
 case h_26=>
  simp only[jzd]at h;obtain⟨_,_,h⟩:=h;split at h
  ·exact TrLe.mk a h
  ·cases h
 case h_27=>
  simp only[jzd]at h;obtain⟨_,_,h⟩:=h;split at h
  ·simp only[jzd]at h;obtain⟨_,_,_,_,h⟩:=h;exact TrLe.mk a h
  ·cases h
 case h_28=>
  simp only[jzd,GN,jze]at h;obtain⟨_,_,q,_,rfl⟩:=h;split
  ·exact(TrLe.put a).trans (TrLe.blk _ _)
  ·exact TrLe.put a
 case h_29=>
  simp only[jzd]at h;obtain⟨_,_,h⟩:=h;split at h
  ·simp only[jzd,Hh]at h;obtain⟨_,_,_,_,_,_,_,_,h⟩:=h;split at h
   ·cases h;exact TrLe.put a
   ·cases h
  ·cases h
 case h_30=>
  simp only[jzd]at h;obtain⟨_,_,h⟩:=h;split at h
  ·simp only[jzd,G7]at h;obtain⟨_,_,_,_,_,_,_,_,_,_,h⟩:=h;split at h
   ·split at h
    ·cases h;exact(TrLe.put a).trans (TrLe.blk _ _)
    ·cases h
   ·cases h
  ·cases h
 all_goals
  simp only[jzd,jze]at h
  first
  |(obtain⟨_,_,rfl⟩:=h;exact TrLe.put a)
  |(obtain⟨_,_,_,_,rfl⟩:=h;exact TrLe.put a)
  |(obtain⟨_,_,_,_,_,_,rfl⟩:=h;exact TrLe.put a)
  |(obtain⟨_,_,_,_,_,_,_,_,rfl⟩:=h;exact TrLe.put a)
  |(obtain⟨_,_,_,_,_,_,_,_,_,_,rfl⟩:=h;exact TrLe.put a)
end
end Go.Va
namespace Go.Va
open _root_.Nat renaming le_trans → aD, lt_of_lt_of_le → aH
open World renaming block_lt_of_cell? → aG
open Go.RowKit
variable [DrC]
variable [Gv]
structure Cx where
 M:Addr->Prop
 Z:Addr->Prop
 w0:World
 n:Nat
 pin:List Nat
 pv:Nat->Value
 Y:Option Yl
 R0:Addr->Prop
 D0:Addr->Prop
structure Lk (X:Cx) (M Z:Addr->Prop) (w0:World) (st:St) (a:Act):Prop where
 pins: ∀k∈X.pin,a.tmps.getD k undef=X.pv k
 plain:X.Y=none->M=X.M/\Z=X.Z/\w0=X.w0
 fr:Fr (λad=>X.M ad\/X.R0 ad) X.w0 w0
 z: ∀ad,X.Z ad->Z ad
 m: ∀ad,M ad->X.M ad\/X.w0.heap.size<=ad.block
 y: ∀x r,lk YS st.t=some (.tr x r)-> ∃Y R D,X.Y=some Y/\x=Y.x/\Y.J r R D w0/\(∀ad,R ad->Z ad)/\(∀ad,R ad->X.R0 ad\/X.w0.heap.size<=ad.block)/\(∀ad,D ad-> ¬M ad)/\
  (∀ad,D ad->X.D0 ad\/ ¬X.Z ad\/X.w0.heap.size<=ad.block)/\(∀ad,X.D0 ad->D ad)
def BX(X:Cx)(K:St->Prop)(a:Act)(w:World):Prop:= ∃M Z w0 ρ st,Lk X M Z w0 st a/\Rel M Z w0 ρ st a w/\a.tmps.size=X.n/\K st
def Fg(X:Cx)(d:Nat):Prop:=d<X.n/\d<YS/\d∉X.pin
variable{e Z1:Addr->Prop}
section
variable {P:Program} {T:AH} {X:Cx} {M Z:Addr->Prop} {w0 w:World} {ρ:AE} {st:St} {a:Act}
theorem Lk.next(h:Lk X M Z w0 st a){b:St}{e:Act}(j:TrLe b st)(i: ∀k∈X.pin,e.tmps.getD k undef=a.tmps.getD k undef):Lk X M Z w0 b e where
 pins:=λk f=>(i k f).trans (h.pins k f)
 plain:=h.plain
 fr:=h.fr
 z:=h.z
 m:=h.m
 y:=λx r g=>h.y x r (j x r g)
theorem Lk.of(h:Lk X M Z w0 st a){b:St}(e:TrLe b st):Lk X M Z w0 b a:=h.next e λ_ _=>rfl
theorem PQ{a:Act}{dst:Option Nat}{v:Value}(f: ∀d,dst=some d->Fg X d): ∀k∈X.pin,(a.put dst v).tmps.getD k undef=a.tmps.getD k undef:=λk g=>by
 cases dst with
 |none=>rfl
 |some d=>
  have b:d≠k:=λe=>(f d rfl).2.2 (e ▸ g);simp[Act.put,Cn,Array.getElem?_setIfInBounds,b]
theorem Lk.put(h:Lk X M Z w0 st a){b:St}{dst:Option Nat}{v:Value}(f:TrLe b st)(e: ∀d,dst=some d->Fg X d):Lk X M Z w0 b (a.put dst v):=h.next f (PQ e)
theorem CX(a:Act)(d:Option Nat)(v:Value):(a.put d v).tmps.size=a.tmps.size:=by cases d<;>simp[Act.put]
theorem EG(h:Rel M Z w0 ρ st a w){i:Nat}{o:Own}(hi:ρ i=some o){b:Addr}(l:o.has b):b.block<w.heap.size:=by
 rcases Own.has_cases l with⟨k,e,g,f⟩|⟨j,e⟩
 case inr=>
  obtain⟨y,p,_⟩:=h.mps i o hi j;grind
 obtain⟨⟨v,m⟩,_⟩:=h.heap.owns.cells i o hi k (b.off - o.o) O;have:=aG w _ m;grind
theorem IP(h:Rel M Z w0 ρ st a w){i:Nat}{o:Own}(hi:ρ i=some o){b:Addr}(g:o.has b): ¬Z b:=λe=>by
 rcases h.mine i o b hi g with f|hs
 ·exact h.mz b f e
 ·have:=h.out b e;omega
theorem SC(h:Rel M Z w0 ρ st a w){b:Addr}(g:Ar ρ Z b):b.block<w.heap.size:=by
 rcases g with i|⟨j,k,f,e⟩
 ·exact aH (h.out b i) h.fr.size
 ·exact EG h f e
theorem PJ(h:Rel M Z w0 ρ st a w)(g: ∀b,Z1 b->b.block<w.heap.size)(i: ∀b,e b->b.block<w.heap.size->Ar ρ Z b):ZOk w Z1 e:=
 h.out.keep h.fr O3 g λb f=>by
  rcases Nat.lt_or_ge b.block w.heap.size with hl|hl
  ·rcases i b f hl with f|⟨j,m,l,k⟩
   ·grind
   ·exact(h.mine j m b l k).imp .inr id
  ·exact .inr (aD h.fr.size hl)
theorem Hs(h:Rel M Z w0 ρ st a w)(f: ∀b,Z1 b->Ar ρ Z b)(g: ∀b,e b->Ar ρ Z b):ZOk w Z1 e:=
 (by grind[PJ,SC])
theorem MX(h:Rel M Z w0 ρ st a w)(N:Lk X M Z w0 st a){dst:Option Nat}(hd: ∀d,dst=some d->Fg X d)(hn:a.tmps.size=X.n){ids:List Nat}{Y:Yl}(hX:X.Y=some Y)(hok:YlOk P Y){r r':List (List A)}{R D:Addr->Prop}
  (hJ0:Y.J r R D w0) (E: ∀l,R l->Z l) (hR0: ∀l,R l->X.R0 l\/X.w0.heap.size<=l.block) (hDM: ∀l,D l-> ¬M l) (hD0: ∀l,D l->X.D0 l\/ ¬X.Z l\/X.w0.heap.size<=l.block) (hD00: ∀l,X.D0 l->D l)
  {w':World} {W D':Addr->Prop} (hJ:Y.J r' W D' w') (G:Fr R w w') (Q: ∀l,W l->R l\/w.heap.size<=l.block) (hD': ∀l,D' l->D l\/ ¬Ar (AJ ids ρ) Z l\/w.heap.size<=l.block) (hDD: ∀l,D l->D' l) {K:St->Prop}
  (hK:K (st.backY dst ids Y.x r')):BX X K (a.put dst (.tuple #[])) w':=by
 have F:=h.freeze ids;have hk:Keep w w' (Ar (AJ ids ρ) Z) (Ar (AJ ids ρ) λl=>Z l\/W l):=λl x S p=>by
  refine⟨G.cell l x (λhr=>S (.inl (E l hr))) p,?_⟩;rintro ((H|hr)|ho)
  ·exact S (.inl H)
  ·rcases Q l hr with hr|hs
   ·exact S (.inl (E l hr))
   ·have:=aG w l p;omega
  ·exact S (.inr ho)
 have hkC: ∀(c:C) (v:Value),RepC (AJ ids ρ) w Z c v->RepC (AJ ids ρ) w' (λl=>Z l\/W l) c v:=λc v hc=>by
  cases c with
  |d x=>exact RepD.keep hk hc
  |nl=>exact hc
  |bad=>exact hc
  |sl i off n=>exact hc
  |ptr i off=>exact hc
  |mp q i=>exact hc
 have hkU: ∀(u:U) (v:Value),RepU (AJ ids ρ) w Z u v->RepU (AJ ids ρ) w' (λl=>Z l\/W l) u v:=λu v hu=>by
  cases u with
  |c x=>exact hkC x v hu
  |agg cs=>obtain⟨vs,p,hl,hr⟩:=hu;exact⟨vs,p,hl,O3⟩
  |clo f cs=>obtain⟨vs,p,hl,hr⟩:=hu;exact⟨vs,p,hl,O3⟩
 have hkV: ∀(u:V) (v:Value),RepV (AJ ids ρ) w Z u v->RepV (AJ ids ρ) w' (λl=>Z l\/W l) u v:=λu v hu=>by
  cases u with
  |u x=>exact hkU x v hu
  |tup xs=>obtain⟨vs,p,hl,hr⟩:=hu;exact⟨vs,p,hl,O3⟩
  |tr x r=>trivial
 have I: ∀i o,AJ ids ρ i=some o->o.gone=false-> ∀j,j<o.room*o.sz->w'.cell? (o.at j)=w.cell? (o.at j)/\w'.frozen? (o.at j)=w.frozen? (o.at j):=λi o hi hg j hj=>by
  obtain⟨⟨v,p⟩,_⟩:=F.heap.owns.cells i o hi hg j hj;refine⟨?_,G.frz _ (λhr=>IP F hi (Own.has_at hg hj) (E _ hr)) (aG w _ p)⟩;rw[p];exact G.cell _ v (λhr=>IP F hi (Own.has_at hg hj) (E _ hr)) p
 have hobj: ∀i o,AJ ids ρ i=some o->o.mp-> ∀y:Obj,w.heap[o.g]? =some y->w'.heap[o.g]? =some y:=λi o hi hm y hy=>G0 G (λl e hr=>IP F hi (ER hm e) (E l hr)) hy;have hrel:Rel (Cells (AJ ids ρ)) (λl=>Z l\/W l) w' (AJ ids ρ) (st.freeze ids) a w':=
  {fr:=⟨rfl,DR.refl _,rfl,rfl,AO _,λ_ _ _ h=>h,λ_ _ _=>rfl,λ_ _ _=>rfl⟩
   heap:=⟨⟨λi o hi hg j hj=>by rw[(I i o hi hg j hj).1,(I i o hi hg j hj).2];exact F.heap.owns.cells i o hi hg j hj,F.heap.owns.apart,F.heap.owns.lim⟩,λi b hb=>by
    obtain⟨o,ho,hr⟩:=F.heap.rep i b hb;refine⟨o,ho,?_⟩;have hsame:=I i o ho;cases b with
    |row sz cs app=>
     obtain⟨T,L,q3,q4,q5⟩:=hr;refine⟨T,L,q3,q4,λj x hx=> ?_⟩;obtain⟨v,p,hd⟩:=q5 j x hx;have hj:j<cs.length:=O3;have hnil:o.nil=false:=by
      grind
     exact⟨v,O3,hd.keep hk⟩
    |box cs=>
     obtain⟨T,L,q3,q4⟩:=hr;refine⟨T,L,q3,λj x hx=> ?_⟩;grind
    |fbox f cs=>
     obtain⟨T,L,q3,v,p,hd⟩:=hr;exact⟨T,L,q3,v,by simp_all,O3⟩
    |mp x=>
     obtain⟨T,L,y,hy,hx⟩:=hr;exact⟨T,L,y,hobj i o ho L y hy,hx⟩
    |gh cs=>
     obtain⟨T,L,q3⟩:=hr;exact⟨T,L,O3⟩⟩
   mine:=λi o l hi ho=> .inl ⟨i,o,hi,ho⟩
   out:=(Hs h (Z1:=λ_=>False) O1 λl ho=>ho).keep G (λl hr=> .inl (E l hr)) (λl H=>by
    rcases H with H|hr
    ·exact aH (h.out l H) (aD h.fr.size G.size)
    ·exact(hok.sub _ _ _ _ hJ).2 l ((hok.sub _ _ _ _ hJ).1 l hr)) λl H=>by
    rcases H with (H|hr)|⟨i,o,hi,ho⟩
    ·exact .inl (.inl H)
    ·exact(Q l hr).imp (λhr=> .inl (E l hr)) id
    ·exact .inl (CD (.inr ⟨i,o,hi,ho⟩))
   mz:=λl ⟨i,o,hi,ho⟩ H=>by
    rcases H with H|hr
    ·exact IP F hi ho H
    ·rcases Q l hr with hr|hs
     ·exact IP F hi ho (E l hr)
     ·have:=EG F hi ho;omega
   tmps:=λt v p=>hkV v _ (F.tmps t v p)
   defers:=h.defers
   mps:=F.mps.to O3 }
 have hp:=hrel.put (dst:=dst) (v:= .tup []) (x:= .tuple #[]) (λd h=>by rw[hn];exact(hd d h).1) ⟨[],rfl,rfl,O1⟩;refine⟨_,_,_,_,st.backY dst ids Y.x r',?_,⟨hp.fr,hp.heap,hp.mine,hp.out,hp.mz,λt v p=> ?_,hp.defers,hp.mps⟩,(CX _ _ _).trans hn,hK⟩
 ·refine⟨λk hk=>(PQ hd k hk).trans (N.pins k hk),O3,?_,λl h=> .inl (N.z l h),λl ⟨i,o,hi,ho⟩=> ?_,λx r hh=> ?_⟩
  ·refine(N.fr.into h.fr λl hm=> ?_).into G λl hr=> ?_
   ·rcases N.m l hm with h|h
    ·exact .inl (.inl h)
    ·exact .inr h
   grind
  ·rcases F.mine i o l hi ho with hm|hs
   ·exact N.m l hm
   ·exact .inr (aD N.fr.size hs)
  ·simp only[St.backY,St.rest,Bt,Option.some.injEq,V.tr.injEq]at hh;obtain⟨rfl,rfl⟩:=hh;refine⟨Y,W,D',hX,rfl,hJ,λl h=> .inr h,λl hr=> ?_,λl hdd ⟨i,o,hi,ho⟩=> ?_,λl hdd=> ?_,O3⟩
   ·rcases Q l hr with hr|hs
    ·exact hR0 l hr
    ·exact .inr (aD (aD N.fr.size h.fr.size) hs)
   ·rcases hD' l hdd with hq|hq|hq
    ·have hlt:=(hok.sub _ _ _ _ hJ0).2 l hq;rcases F.mine i o l hi ho with hm|hs
     ·exact hDM l hq hm
     ·omega
    ·exact hq (.inr ⟨i,o,hi,ho⟩)
    ·have:=EG F hi ho;omega
   ·rcases hD' l hdd with hq|hq|hq
    ·exact hD0 l hq
    ·exact .inr (.inl λH=>hq (.inl (N.z l H)))
    ·exact .inr (.inr (aD (aD N.fr.size h.fr.size) hq))
 ·simp only[St.backY,St.rest]at p;by_cases e:t=YS
  ·subst e;rw[Bt]at p;cases p;trivial
  ·rw[BD e,BR e]at p;exact hp.tmps t v p
end
end Go.Va
