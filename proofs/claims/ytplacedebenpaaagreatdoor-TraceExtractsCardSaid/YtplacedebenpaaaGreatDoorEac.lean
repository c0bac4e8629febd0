/- a part of the proof -/
import Derived.Test.YtplacedebenpaaaGreatDoorEab
import Derived.Laws.Tables
import Derived.Great.FillDense
import Derived.IntWalk
import Derived.Great.BuildSlice
import Derived.Laws.AppendOwn
set_option linter.all false
namespace Go.Va
open Go.RowKit
variable [DrC]
variable [Gv]
variable{d:TypeDesc}{o:Oper}{α:Type}{i:TI}{t:TypeId}
section
variable {P:Program} {T:AH} {M Z:Addr->Prop} {w0 w:World} {ρ:AE} {st:St} {a:Act}
theorem F8{d:Option Nat}{st a:St}{b:Blk}{c:Nat->C}(h:mk d st b c=some a): ∃k,d=some k/\a=(st.new k b).put (some k) (vC (c k)):=by
 unfold mk at h;rw[jze]at h;grind
theorem StepOk.at{k:Nat}(f:o.dst=some k){v:V}{x:Value}{w':World}{b:AE}{s:St}(e: ∀d,o.dst=some d->d<a.tmps.size)
  (g:(execOp a.eval o).run P w= .ok (.value x) w') (h:Rel M Z w0 b s a w') (i:RepV b w' Z v x):StepOk P M Z w0 o (s.put (some k) v) a w:=by
 grind[StepOk.new]
theorem N2(h:Rel M Z w0 ρ st a w)(f: ∀d,o.dst=some d->d<a.tmps.size)(x:Operand)(ho:o.op= .move x\/o.op= .assign x){b:St}
  (e:(st.ev x).map (λv=>st.put o.dst v)=some b):StepOk P M Z w0 o b a w:=by
 rw[jze]at e;obtain⟨v,g,rfl⟩:=e;exact .val h f (x:=a.eval x) (by rcases ho with ho|ho<;>simp[execOp,ho]) (h.ev g)
theorem jjJ(h:Rel M Z w0 ρ st a w)(_:Dk P T)(m: ∀d,o.dst=some d->d<a.tmps.size)(t:o.op= .assign (.const (.slice none 0 0))){f:St}
  (l:GH T o.type o.dst st=some f):StepOk P M Z w0 o f a w:=by
 simp only[GH,jzd,jze]at l;obtain⟨k,q,i,_,e,_,j,_,rfl⟩:=l;have r:=h.new (Ext.refl w) k (o:={ g:=0,o:=0,sz:=j.size,room:=0,app:=true,nil:=true }) (b:= .row j.size [] true)
  (λv p=>by cases p.1) O1 (by simp[maxLen]) ⟨rfl,rfl,O1,O1,O1⟩
 exact .at q m (x:= .slice none 0 0) (by simp[execOp,t,Act.eval]) r ⟨_,Cd _ _ _,O1,O1⟩
theorem Y1(h:Rel M Z w0 ρ st a w)(g: ∀d,o.dst=some d->d<a.tmps.size)(c x y:Operand)(i:o.op= .pick c x y){f:St}
  (j:((st.evB c).bind λc=>(pickV c (st.ev x) (st.ev y)).map λv=>st.put o.dst v)=some f):StepOk P M Z w0 o f a w:=by
 simp only[jzd,jze]at j;obtain⟨b,k,v,l,rfl⟩:=j;have e:=h.evB k;cases b with
 |true=>exact .val h g (x:=a.eval x) (by simp[execOp,i,e,asBool]) (h.ev (by grind[pickV]))
 |false=>exact .val h g (x:=a.eval y) (by simp[execOp,i,e,asBool]) (h.ev (by grind[pickV]))
theorem J4{n:Nat}(h:n<=10000):n<=maxLen:=by unfold maxLen;omega
theorem jbP(h:Rel M Z w0 ρ st a w)(j:Dk P T)(m: ∀d,o.dst=some d->d<a.tmps.size)(t:TypeId)(q:o.op= .alloc t){b:St}
  (e:((T t).bind λi=>mk o.dst st (.box i.zero) λd=> .ptr d 0)=some b):StepOk P M Z w0 o b a w:=by
 rw[jzd]at e;obtain⟨i,hi,e⟩:=e;obtain⟨k,p,rfl⟩:=F8 e;obtain⟨info,d,f⟩:=Be (j t i hi);obtain⟨z,r,g⟩:=f.zero;have l:=h.newBox k t (Ep g) (by rw[f.zlen];exact J4 f.small);refine .at p m (x:= .pointer (some ⟨w.heap.size,0,none⟩)) ?_ l ⟨_,Cd _ _ _,rfl,by simp[BB]⟩;simp[execOp,q,Instr.alloc,zeroValue,typeInfo,f.inf,r,newVar,newRow]
theorem Rel.newFbox(h:Rel M Z w0 ρ st a w)(i:Nat){f:FuncId}{cs:List C}{v:Value}(e:TypeId)(b:RepU ρ w Z (.clo f cs) v):
  Rel M Z w0 (BW ρ i (BB w 1 1 false)) (st.new i (.fbox f cs)) a (w.alloc (.cells #[v] e)):=by
 refine h.new (Ext.alloc w _) i (Ln w _ _ _) (λ_ j g=>⟨?_,?_⟩) (by simp[BB,maxLen]) ?_
 ·simp_all[BB,Own.at]
 ·simp_all[BB,Own.at,Nat.zero_add,NG]
 ·exact⟨rfl,rfl,⟨rfl,rfl⟩,v,by simp[BB,Own.at],b⟩
theorem ZB(h:Rel M Z w0 ρ st a w)(y:Dk P T)(l: ∀d,o.dst=some d->d<a.tmps.size)(t:TypeId)(x:Operand)(p:o.op= .box t x){j:St}
  (e:((T t).bind λi=>(st.evU x).bind λu=>if u.cells.length=i.size then mk o.dst st (Fq u) (λd=> .ptr d 0) else none)=some j):StepOk P M Z w0 o j a w:=by
 simp only[jzd]at e;obtain⟨i,hi,u,z,e⟩:=e;split at e
 case isFalse=>cases e
 case isTrue q=>
  obtain⟨k,m,rfl⟩:=F8 e;obtain⟨info,d,r⟩:=Be (y t i hi);have b:=h.evU z;cases u with
  |clo f v=>
   have g:=h.newFbox k t b;refine .at m l (x:= .pointer (some ⟨w.heap.size,0,none⟩)) ?_ g ⟨_,Cd _ _ _,rfl,by simp[BB]⟩;obtain⟨F,E,_⟩:=b;simp[execOp,p,Instr.box,newVar,newRow,E,Value.cells]
  |c x=>
   have g:=h.newBox k t b.cells (by rw[q];exact J4 r.small);refine .at m l (x:= .pointer (some ⟨w.heap.size,0,none⟩)) ?_ g ⟨_,Cd _ _ _,rfl,by simp[BB]⟩;simp[execOp,p,Instr.box,newVar,newRow]
  |agg v=>
   have g:=h.newBox k t b.cells (by rw[q];exact J4 r.small);refine .at m l (x:= .pointer (some ⟨w.heap.size,0,none⟩)) ?_ g ⟨_,Cd _ _ _,rfl,by simp[BB]⟩;simp[execOp,p,Instr.box,newVar,newRow]
theorem Df(off:Nat)(new l:List α)(h:off+new.length<=l.length)(k:Nat):
  (splice off new l)[k]? =if off<=k/\k<off+new.length then new[k - off]? else l[k]? :=by
 unfold splice;rw[List.append_assoc];grind
theorem Zi(off:Nat)(new l:List α)(h:off+new.length<=l.length):(splice off new l).length=l.length:=by
 grind[splice]
theorem RepL.splice{r:α->Value->Prop}{off:Nat}{new l:List α}{i g:List Value}(f:RepL r new i)(e:RepL r l g)(h:off+new.length<=l.length):
  RepL r (splice off new l) (splice off i g):=by
 have k:off+i.length<=g.length:=by rw[<-f.1,<-e.1];exact h
 refine⟨by rw[Zi _ _ _ h,Zi _ _ _ k,e.1],λj x v b a=> ?_⟩;rw[Df _ _ _ h]at b;rw[Df _ _ _ k,<-f.1]at a;split at b
 ·rw[if_pos ‹_›]at a;exact f.2 _ _ _ b a
 ·rw[if_neg ‹_›]at a;exact e.2 _ _ _ b a
theorem jfE(off:Nat)(v a:Array Value)(h:off+v.size<=a.size):
  (v.zipIdx.foldl (λcs (x:Value×Nat)=>cs.setIfInBounds (off+x.2) x.1) a).toList=splice off v.toList a.toList:=by
 obtain⟨f,b⟩:=Great.foldl_set off v.toList 0 a;have e:v.zipIdx.foldl (λcs (x:Value×Nat)=>cs.setIfInBounds (off+x.2) x.1) a=(v.toList.zipIdx 0).foldl (λcs (x:Value×Nat)=>cs.setIfInBounds (off+x.2) x.1) a:=by
  rw[<-Array.foldl_toList,Array.toList_zipIdx]
 rw[e];apply List.ext_getElem?;intro k;rw[Df _ _ _ (by simpa using h),Array.getElem?_toList,b k];grind
theorem KF{r:C->Value->Prop}{b:Nat->Option (Nat×Nat)}: ∀{a:List (Nat×List C)} {vps:List (Nat×Value)} {cs cs':List C} {vs:Array Value},
  RepL r cs vs.toList->a.length=vps.length->(∀(j:Nat) (p:Nat×List C) (q:Nat×Value),a[j]? =some p->vps[j]? =some q->p.1=q.1/\RepL r p.2 q.2.cells.toList)->DE b cs a=some cs'->
  ∃e,Instr.fill b vs vps=some e/\RepL r cs' e.toList
 |[],[],cs,cs',vs,h,_,_,f=>by cases f;exact⟨vs,rfl,h⟩
 |[],_::_,_,_,_,_,k,_,_=>by simp at k
 |_::_,[],_,_,_,_,k,_,_=>by simp at k
 |(i,c)::K,(J,v)::vps,cs,cs',vs,h,k,z,f=>by
  obtain⟨y,l⟩:=z 0 _ _ rfl rfl;simp at y l;subst y;simp only[DE,jzd]at f;obtain⟨p,m,f⟩:=f;split at f
  case isFalse=>cases f
  case isTrue I=>
   have G:v.cells.size=c.length:=by have:=l.1;simpa using this.symm
   have E:cs.length=vs.size:=by have:=h.1;simpa using this
   have g:p.1+v.cells.size<=vs.size:=O;obtain⟨e,w,t⟩:=KF (vps:=vps) (vs:=v.cells.zipIdx.foldl (λcs (x:Value×Nat)=>cs.setIfInBounds (p.1+x.2) x.1) vs)
    (by rw[jfE _ _ _ g];exact l.splice h O) (by simpa using k) (λj q H F o=>z (j+1) q H (by simpa using F) (by simpa using o)) f
   refine⟨e,?_,t⟩;unfold Instr.fill;rw[m];simp only;rw[if_neg (by simp;omega)];exact w
theorem Ns(h:Rel M Z w0 ρ st a w): ∀{f:List (Nat×Operand)} {l:List (Nat×List C)},st.evUs f=some l->
  l.length=(f.map λp=>(p.1,a.eval p.2)).length/\ ∀(j:Nat) (p:Nat×List C) (q:Nat×Value),l[j]? =some p->(f.map λp=>(p.1,a.eval p.2))[j]? =some q->p.1=q.1/\RepL (RepC ρ w Z) p.2 q.2.cells.toList
 |[],l,b=>by cases b;simp
 |(i,x)::r,l,b=>by
  simp only[St.evUs,jzd,jze]at b;obtain⟨u,o,v,e,rfl⟩:=b;obtain⟨m,t⟩:=Ns h e;refine⟨by simpa using m,λj p q g k=> ?_⟩;cases j with
  |zero=>simp at g k;subst g;subst k;exact⟨rfl,(h.evU o).cells⟩
  |succ j=>grind
theorem QX(a:Act)(b:Array (Nat×Operand)):(b.map λx=>(x.1,a.eval x.2)).toList=b.toList.map λp=>(p.1,a.eval p.2):=O1
theorem Tz(h:Dk P T): ∀(g:List (Nat×Nat)) (l:List Field),g=l.map (λf=>(f.offset,f.type))-> ∀b:List (Nat×Nat),g.mapM (λp=>(T p.2).map λj=>(p.1,j.size))=some b->
  l.mapM (λf=>(P.info? f.type).map λi=>(f.offset,i.size))=some b
 |_,[],a,b,e=>O3
 |_,f::l,a,b,e=>by
  subst a;simp only[List.map_cons,List.mapM_cons,Option.bind_eq_bind,Option.pure_def,jzd,jze,Option.some.injEq]at e;obtain⟨q,⟨j,m,rfl⟩,r,o,rfl⟩:=e;obtain⟨info,d,k⟩:=Be (h _ _ m);have t:=Tz h _ l rfl r o;simp[List.mapM_cons,k.inf,t,k.size]
theorem jb6(h:Rel M Z w0 ρ st a w)(K:Dk P T)(hd: ∀d,o.dst=some d->d<a.tmps.size)(t:TypeId)(b:Array (Nat×Operand))(ho:o.op= .build t b){I:St}
  (Y:((T t).bind λi=>(st.evUs b.toList).bind λl=>(build T i l).map λu=>st.put o.dst (.u u))=some I):StepOk P M Z w0 o I a w:=by
 simp only[jzd,jze]at Y;obtain⟨i,hi,l,hl,u,k,rfl⟩:=Y;obtain⟨info,d,q⟩:=Be (K t i hi);obtain⟨z,hz,Q⟩:=q.zero;obtain⟨y,E⟩:=Ns h hl;have H:RepL (RepC ρ w Z) i.zero z.cells.toList:=Ep Q;have S: ∃g,P.built t (b.map λ(i,x)=>(i,a.eval x)).toList=some g/\RepU ρ w Z u (.agg g):=by
  unfold build at k;have X:(b.map λ(i,x)=>(i,a.eval x)).toList=b.toList.map λp=>(p.1,a.eval p.2):=QX a b;split at k
  ·rename_i n e f;simp only[jzd,jze]at k;obtain⟨j,hj,cs,m,rfl⟩:=k;obtain⟨infe,de,G⟩:=Be (K e j hj);obtain⟨g,J,F⟩:=KF H y E m;refine⟨g,?_,g.toList,O1,F⟩;unfold Program.built;rw[q.inf,q.array f];simp only[hz,G.inf,G.size,X];exact J
  ·split at k
   case isFalse=>cases k
   case isTrue r=>
    simp only[jzd,jze]at k;obtain⟨W,N,cs,m,rfl⟩:=k;obtain⟨g,J,F⟩:=KF H y E m;refine⟨g,?_,g.toList,O1,F⟩;have v:=q.desc;have f:i.arr=none:=by assumption
    cases d<;>simp[Ct,f,r]at v
    case struct fs=>
     have L:=Tz (P:=P) K i.flds fs.toList v.2 W N;unfold Program.built;rw[q.inf,q.und];simp only[hz,L,X];have:(λx=>(W.toArray[x]? :Option (Nat×Nat)))=Kk W:=by funext x;simp[Kk]
     rw[this];exact J
 obtain⟨g,J,F⟩:=S;refine .val h hd (x:= .agg g) ?_ F;grind[execOp,Sem.run_bind,run_build,Result.andThen_ok,Sem.run_pure]
theorem RepL.map_d{cs:List D}{vs:List Value}{ρ:AE}{w:World}{Z:Addr->Prop}(h:RepL (RepD w (Ar ρ Z)) cs vs):RepL (RepC ρ w Z) (cs.map .d) vs:=
 h.imp C.d λ_ _ _ a=>a
theorem Yc(w:World)(g o:Nat)(vs:List Value)(h: ∀(j:Nat) (v:Value),vs[j]? =some v->w.cell? ⟨g,o+j,none⟩=some v):(loadCells ⟨g,o,none⟩ vs.length).run P w= .ok vs.toArray w:=
 (by grind[run_loadCells_list,X1])
theorem Qr{info:TypeInfo}(b:TyOk P t i info d)(e:i.agg=true)(g o:Nat)(vs:List Value)(f:vs.length=i.size)
  (h: ∀(j:Nat) (v:Value),vs[j]? =some v->w.cell? ⟨g,o+j,none⟩=some v):(loadVar t ⟨g,o,none⟩).run P w= .ok (.agg vs.toArray) w:=by
 have a:=Yc (P:=P) w g o vs h;rw[f]at a;simp[loadVar,b.isAgg,e,b.sizeOf,a]
theorem MS{info:TypeInfo}(b:TyOk P t i info d)(a:i.agg=false)(g o:Nat)(v:Value)
  (h:w.cell? ⟨g,o,none⟩=some v):(loadVar t ⟨g,o,none⟩).run P w= .ok v w:=by
 simp[loadVar,b.isAgg,a,load,Sem.run,h]
def Blk.all:Blk->List C
 | .row _ a _=>a.map .d
 | .box a=>a
 | .fbox _ _=>[.bad]
 | .mp _=>[]
 | .gh _=>[]
theorem RepB.all{o:Own}{b:Blk}(a:RepB ρ w Z o b){j:Nat}{c:C}(h:b.all[j]? =some c): ∃v,w.cell? (o.at j)=some v/\one v/\RepC ρ w Z c v:=by
 cases b with
 |row q g app=>
  obtain⟨_,_,_,_,m⟩:=a;simp only[Blk.all,Bf,jze]at h;obtain⟨x,p,rfl⟩:=h;obtain⟨v,e,i⟩:=m j x p;exact⟨v,e,i.one,i⟩
 |box g=>
  obtain⟨_,_,_,l⟩:=a;exact l j c h
 |fbox f g=>
  obtain⟨_,_,_,v,e,r,rfl,_⟩:=a;cases j with
  |zero=>simp[Blk.all]at h;subst h;exact⟨_,e,rfl,rfl⟩
  |succ j=>simp[Blk.all]at h
 |mp k=>simp[Blk.all]at h
 |gh k=>simp[Blk.all]at h
theorem jeH{b:Blk}{off k:Nat}{cs:List C}(h:b.rd off k=some cs):off+k<=b.all.length/\cs=cut off k b.all:=by
 cases b with
 |row e l app=>
  grind[Blk.rd,Blk.all,cut,List.map_take,List.map_drop]
 |box l=>
  simp only[Blk.rd]at h;split at h<;>cases h;exact⟨by simpa [Blk.all],rfl⟩
 |fbox f l=>simp[Blk.rd]at h
 |mp a=>simp[Blk.rd]at h
 |gh a=>simp[Blk.rd]at h
theorem jkE{b:Blk}{off:Nat}{u:U}(h:b.ld off=some u):(∃c,u= .c c/\b.all[off]? =some c)\/(off=0/\ ∃f cs,u= .clo f cs/\b= .fbox f cs):=by
 cases b with
 |row g l app=>simp only[Blk.ld,jze]at h;obtain⟨x,a,rfl⟩:=h;exact .inl ⟨_,rfl,by simp[Blk.all,a]⟩
 |box l=>simp only[Blk.ld,jze]at h;obtain⟨x,a,rfl⟩:=h;exact .inl ⟨_,rfl,a⟩
 |fbox f l=>
  simp only[Blk.ld]at h;grind
 |mp e=>simp[Blk.ld]at h
 |gh e=>simp[Blk.ld]at h
theorem Iz{α:Type}{r:α->Value->Prop}: ∀(cs:List α) (f:Nat->Option Value),(∀(j:Nat) (x:α),cs[j]? =some x-> ∃v,f j=some v/\r x v)->
  ∃vs:List Value,RepL r cs vs/\ ∀(j:Nat) (v:Value),vs[j]? =some v->f j=some v
 |[],_,_=>⟨[],⟨rfl,O1⟩,O1⟩
 |c::m,f,h=>by
  obtain⟨v,l,k⟩:=h 0 c rfl;obtain⟨vs,⟨e,g⟩,i⟩:=Iz m (λj=>f (j+1)) (λj x b=>h (j+1) x (by simpa using b));refine⟨v::vs,⟨by simp[e],λj x u b a=> ?_⟩,λj u a=> ?_⟩
  ·cases j with
   |zero=>simp at b a;subst b;subst a;exact k
   |succ j=>exact g j x u (by simpa using b) (by simpa using a)
  ·cases j with
   |zero=>simp at a;subst a;exact l
   |succ j=>exact i j u (by simpa using a)
theorem Tr(h:Rel M Z w0 ρ st a w){info:TypeInfo}(T:TyOk P t i info d){c:C}{x:Value}(N:RepC ρ w Z c x){u:U}(l:st.load i c=some u):
  ∃E v,x= .pointer (some E)/\(loadVar t E).run P w= .ok v w/\RepU ρ w Z u v:=by
 have H: ∀(g q:Nat) (v:Value),x= .pointer (some ⟨g,q,none⟩)->(loadVar t ⟨g,q,none⟩).run P w= .ok v w->RepU ρ w Z u v-> ∃E v,x= .pointer (some E)/\(loadVar t E).run P w= .ok v w/\RepU ρ w Z u v:=O3;cases c with
 |nl=>simp[St.load]at l
 |bad=>simp[St.load]at l
 |sl=>simp[St.load]at l
 |mp=>simp[St.load]at l
 |ptr b p=>
  simp only[St.load,jzd]at l;obtain⟨k,hk,l⟩:=l;obtain⟨o',ho',hn',he⟩:=N;obtain⟨o2,ho2,hb⟩:=h.heap.rep b k hk;obtain rfl:o2=o':=O3;cases I:i.agg with
  |true=>
   rw[I]at l;simp only[if_true,jze]at l;obtain⟨L,hcs,rfl⟩:=l;obtain⟨J,rfl⟩:=jeH hcs;obtain⟨vs,Y,o⟩:=Iz (r:=RepC ρ w Z) (cut p i.size k.all) (λj=>w.cell? (o2.at (p+j))) (λj y z=>by
    rw[getElem?_cut]at z;split at z
    ·obtain⟨v,X,_,Q⟩:=hb.all z;grind
    ·cases z)
   have hvl:vs.length=i.size:=by rw[<-Y.1];simp[cut];omega
   refine H _ _ (.agg vs.toArray) he (Qr T I _ _ vs hvl λj v X=> ?_) ⟨vs,rfl,Y⟩;have:=o j v X;simpa [Own.at,Nat.add_assoc]using this
  |false=>
   rw[I]at l;simp only[Bool.false_eq_true,if_false]at l;rcases jkE l with⟨cc,rfl,hcc⟩|⟨rfl,f,L,rfl,rfl⟩
   ·obtain⟨v,X,_,Q⟩:=hb.all hcc;exact H _ _ v he (MS T I _ _ v X) Q
   ·obtain⟨_,_,_,v,X,Q⟩:=hb;grind[MS]
 |d y=>
  cases y with
  |ref L=>
   simp only[St.load]at l;cases N with
   |ref _ E vs S h1 h2 h3=>
    have hx:Value.pointer (some E)= .pointer (some E):=rfl;cases I:i.agg with
    |true=>
     rw[I]at l;simp only[if_true]at l;split at l
     case isFalse=>cases l
     case isTrue J=>
      cases l;by_cases h0:i.size=0
      ·have hc0:L.take i.size=[]:=by simp[h0]
       rw[hc0];obtain⟨G,p,F⟩:=E;have Q:(loadVar t ⟨G,p,F⟩).run P w= .ok (.agg #[]) w:=by
        simp[loadVar,T.isAgg,I,T.sizeOf,h0,loadCells,loadCellsFrom]
       exact⟨_,.agg #[],rfl,Q,⟨[],rfl,rfl,λj x v hx=>by simp at hx⟩⟩
      ·have K:L≠[]:=λe=>by subst e;simp at J;omega
       have m:=S K;obtain⟨G,p,F⟩:=E;simp at m;subst m;obtain⟨us,W,o⟩:=Iz (r:=RepD w (Ar ρ Z)) (L.take i.size) (λj=>w.cell? ⟨G,p+j,none⟩) (λj y z=>by
        rw[List.getElem?_take]at z;split at z
        ·exact⟨_,h1 j y z,h3 j y z⟩
        ·cases z)
       have hul:us.length=i.size:=by rw[<-W.1];simp;omega
       exact H _ _ (.agg us.toArray) hx (Qr T I _ _ us hul o) ⟨us,rfl,W.map_d⟩
    |false=>
     rw[I]at l;simp only[Bool.false_eq_true,if_false,jze]at l;obtain⟨y,z,rfl⟩:=l;have K:L≠[]:=O3;have m:=S K;obtain⟨G,p,F⟩:=E;simp at m;subst m;exact H _ _ _ hx (by grind[MS]) (h3 0 y z)
  |_=>simp[St.load]at l
theorem XG(h:Rel M Z w0 ρ st a w)(f:Dk P T)(j: ∀d,o.dst=some d->d<a.tmps.size)(t:TypeId)(x:Operand)(r:o.op= .load t x){b:St}
  (e:((T t).bind λi=>(st.evC x).bind λc=>(st.load i c).map λu=>st.put o.dst (.u u))=some b):StepOk P M Z w0 o b a w:=by
 simp only[jzd,jze]at e;obtain⟨i,hi,c,g,u,l,rfl⟩:=e;obtain⟨info,d,k⟩:=Be (f t i hi);obtain⟨p,v,q,y,m⟩:=Tr (P:=P) h k (h.evC g) l;exact .val h j (x:=v) (by simp_all[execOp,Instr.loadAt,Instr.sureAddr]) m
end
end Go.Va
namespace Go.Va
open Go.RowKit
variable [DrC]
variable [Gv]
variable{vs:List Value}{o:Oper}{α:Type}
section
variable {P:Program} {T:AH} {M Z:Addr->Prop} {w0 w:World} {ρ:AE} {st:St} {a:Act}
theorem RepL.ones{cs:List C}(h:RepL (RepC ρ w Z) cs vs): ∀v∈vs,v.oneCell'=true:=by
 intro v e;obtain⟨j,b,rfl⟩:=List.getElem_of_mem e;have a:j<cs.length:=by rw[h.1];exact b
 exact RepC.one (h.2 j _ _ (AD a) O1)
theorem Vj{t:TypeId}{i:TI}{info:TypeInfo}{d:TypeDesc}(k:TyOk P t i info d){o:Own}{off:Nat}{v:Value}(h:v.cells.size=i.size)
  (b: ∀j,j<v.cells.size->(w.cell? (o.at (off+j))).isSome=true/\w.frozen? (o.at (off+j))=false) (f: ∀u∈v.cells.toList,u.oneCell'=true):
  (storeVar t (o.at off) v).run P w= .ok () (w.setCells o.g (o.o+off) v.cells.toList):=by
 have e:=run_storeCells_cells (P:=P) o.g (o.o+off) v.cells.toList 0 w (λj a=>by
   have:=(b j (by simpa using a)).1;simpa [Own.at,Nat.add_assoc]using this) (λj a=>by
   have:=(b j (by simpa using a)).2;simpa [Own.at,Nat.add_assoc]using this) f
 simp only[Nat.add_zero]at e;simp[storeVar,k.sizeOf,h,Own.at,e]
theorem GI(h:Rel M Z w0 ρ st a w){i:Nat}{o:Own}(hi:ρ i=some o)(f:o.gone=false){off:Nat}(b:off+vs.length<=o.room*o.sz)(j:Nat):
  (w.setCells o.g (o.o+off) vs).cell? (o.at j)=if off<=j/\j<off+vs.length then vs[j - off]? else w.cell? (o.at j):=by
 by_cases e:off<=j/\j<off+vs.length
 ·rw[if_pos e];have:=World.cell?_setCells_in o.g vs (o.o+off) w (λq k=>by
   obtain⟨⟨u,l⟩,_⟩:=h.heap.owns.cells i o hi f (off+q) O;grind) (j - off) O
  grind
 ·rw[if_neg e];grind[World.cell?_setCells_out]
theorem Ro{b off:Nat}{u:U}{st s:St}{k:Blk}(h:st.storeU b off u k=some s):(∃f cs a,u= .clo f cs/\k= .box [a]/\off=0/\s=st.blk b (.fbox f cs))\/st.storeB b off u.cells k=some s:=by
 unfold St.storeU at h;split at h
 ·split at h
  ·grind
  ·exact .inr h
 ·exact .inr h
 ·exact .inr h
theorem jae(h:Rel M Z w0 ρ st a w)(hT:Dk P T)(hd: ∀d,o.dst=some d->d<a.tmps.size)(t:TypeId)(x y:Operand)(ho:o.op= .store t x y){st':St}
  (hs:((T t).bind λi=>(st.evC x).bind λc=>(st.evU y).bind λu=>(st.store i c u).map λs=>s.put o.dst (.tup []))=some st'):StepOk P M Z w0 o st' a w:=by
 simp only[jzd,jze]at hs;obtain⟨i,hi,c,hc,u,hu,s,hs,rfl⟩:=hs;obtain⟨info,d,ht⟩:=Be (hT t i hi);have E:=(h.evU hu).cells;unfold St.store at hs;split at hs
 case isFalse=>cases hs
 case isTrue hlen=>
  split at hs
  case h_2=>cases hs
  case h_1 b off=>
   rw[jzd]at hs;obtain⟨blk,hblk,hs⟩:=hs;obtain⟨ow,r,N,he⟩:=h.evC hc;obtain⟨F,ho2,hb⟩:=h.heap.rep b blk hblk;obtain rfl:F=ow:=Bi (ho2.symm.trans r);have N:=hb.thaw N;have hvl:(a.eval y).cells.size=i.size:=by have:=E.1;simp at this;omega
   have S: ∀(Y:AE) (s':St),off+(a.eval y).cells.toList.length<=F.room*F.sz->
     Rel M Z w0 Y s' a (w.setCells F.g (F.o+off) (a.eval y).cells.toList)->StepOk P M Z w0 o (s'.put o.dst (.tup [])) a w:=λY s' k hr=>by
    have hrun:=Vj (P:=P) (w:=w) ht (o:=F) (off:=off) (v:=a.eval y) hvl (λj L=>by
     obtain⟨⟨q,hq⟩,hf⟩:=h.heap.owns.cells b F r N (off+j) (by simp at k;omega);exact⟨by rw[hq];rfl,hf⟩) E.ones
    refine⟨.skip,undef,_,Y,?_,.inr ⟨rfl,rfl⟩,hr.put hd ⟨[],rfl,rfl,λj x v Q=>by simp at Q⟩⟩;simp[execOp,ho,Instr.storeAt,Instr.sureAddr,he,hrun]
   rcases Ro hs with⟨f,cs,l0,rfl,rfl,rfl,rfl⟩|hs
   ·obtain⟨l,m,G,J⟩:=hb;obtain⟨vs,hvs,hl⟩:=h.evU hu;have hcl:(a.eval y).cells.toList=[a.eval y]:=by rw[hvs];rfl
    have e:0+(a.eval y).cells.toList.length<=F.room*F.sz:=by rw[hcl,l,m];simp
    refine S ρ _ e (h.write r N e λW=>⟨l,m,G,a.eval y,?_,vs,hvs,hl.1,λj x v Q hv=>(hl.2 j x v Q hv).keep W λ_ _=>rfl⟩);rw[GI h r N e,hcl];simp
   cases blk with
   |fbox f cs=>simp[St.storeB]at hs
   |mp es=>simp[St.storeB]at hs
   |gh es=>simp[St.storeB]at hs
   |box cs=>
    simp only[St.storeB]at hs;split at hs
    case isFalse=>cases hs
    case isTrue k=>
     cases hs;obtain⟨l,m,G,J⟩:=hb;have H:(a.eval y).cells.toList.length=u.cells.length:=E.1.symm;have e:off+(a.eval y).cells.toList.length<=F.room*F.sz:=by rw[H,l,m];omega
     refine S ρ _ e (h.write r N e λW=>⟨l,by rw[m,Zi _ _ _ k],G,λj cc K=> ?_⟩);rw[GI h r N e,H];rw[Df _ _ _ k]at K;split at K
     ·rename_i L;rw[if_pos L];have z:j - off<(a.eval y).cells.toList.length:=O;refine⟨_,AD z,E.ones _ (AZ z),(E.2 _ _ _ K (AD z)).keep W λ_ _=>rfl⟩
     ·rename_i L;rw[if_neg L];obtain⟨v,hv,h1,hr⟩:=J j cc K;exact⟨v,hv,h1,hr.keep W λ_ _=>rfl⟩
   |row sz cs app=>
    simp only[St.storeB,jzd]at hs;obtain⟨p,hp,hs⟩:=hs;obtain⟨ds,s1⟩:=p;obtain⟨I,hds⟩:=h.shut hp E;split at hs
    case h_2=>cases hs
    case h_1 sz' cs' app' hlk=>
     split at hs
     case isFalse=>cases hs
     case isTrue k=>
      cases hs;obtain⟨o3,X,hb'⟩:=I.heap.rep b _ hlk;have ho3':ρ b=some o3:=(Eu X).2;obtain rfl:o3=F:=Bi (ho3'.symm.trans r);obtain⟨l,m,G,J,hb5⟩:=hb';have H:(a.eval y).cells.toList.length=ds.length:=hds.1.symm;have e:off+(a.eval y).cells.toList.length<=o3.room*o3.sz:=by rw[H,l];simp only at k;omega
      refine S _ _ e (I.write X N e λW=>⟨l,m,by rw[Zi _ _ _ k];exact G,J,λj x Q=> ?_⟩);rw[GI I X N e,H];rw[Df _ _ _ k]at Q;split at Q
      ·rename_i L;rw[if_pos L];have z:j - off<(a.eval y).cells.toList.length:=by simp only at L;omega
       exact⟨_,AD z,(hds.2 _ _ _ Q (AD z)).keep W⟩
      ·rename_i L;rw[if_neg L];obtain⟨v,hv,hr⟩:=hb5 j x Q;exact⟨v,hv,hr.keep W⟩
theorem Si(n:Nat)(z:List α)(j:Nat)(a:j<n*z.length):(rep n z)[j]? =z[j%z.length]? :=by
 induction n generalizing j with
 |zero=>simp at a
 |succ n b=>
  grind[rep,List.getElem?_append_left,Nat.mod_eq_of_lt,List.getElem?_append_right,Nat.succ_mul,Nat.mod_eq_sub_mod]
theorem Hp(n:Nat)(z:List α):(rep n z).length=n*z.length:=by
 induction n with
 |zero=>simp[rep]
 |succ n a=>grind[rep,Nat.succ_mul]
theorem Rp{r:α->Value->Prop}{cs:List α}{vs:Array Value}(h:RepL r cs vs.toList)(n:Nat):RepL r (rep n cs) ((Array.range (n*vs.size)).map (vs[· %vs.size]!)).toList:=by
 have a:cs.length=vs.size:=by simpa using h.1
 refine⟨by simp[Hp,a],λj x v e k=> ?_⟩;have f:j<n*vs.size:=O3;have i:0<vs.size:=by
  grind
 rw[Si n cs j (by rw[a];exact f),a]at e;have g:j%vs.size<vs.size:=Nat.mod_lt _ i;have b:v=vs[j%vs.size]:=by
  grind
 subst b;exact h.2 (j%vs.size) x _ e (by simp[g])
theorem Uv{b:Nat->Option (Nat×Nat)}: ∀{a:List (Nat×List C)} {cs cs':List C},DE b cs a=some cs'->cs'.length=cs.length
 |[],_,_,h=>by cases h;rfl
 |(i,v)::r,cs,cs',h=>by
  simp only[DE,jzd]at h;obtain⟨p,_,h⟩:=h;split at h
  case isFalse=>cases h
  case isTrue e=>rw[Uv h,Zi _ _ _ O]
theorem KM(ρ:AE)(w w':World)(Z:Addr->Prop)(k sz room n:Nat)(b:n<=room)(a:room<=maxLen):
  RepC (BW ρ k (BB w sz room true)) w' Z (.sl k 0 n) (.slice (some ⟨w.heap.size,0,none⟩) n room):=
 ⟨_,Cd _ _ _,by grind[BB],.inr ⟨rfl,_,_,rfl,b,a,.inr (by simp[BB,Own.at]),λ_=>by simp[BB]⟩⟩
theorem XX(h:Rel M Z w0 ρ st a w)(hT:Dk P T)(hd: ∀d,o.dst=some d->d<a.tmps.size)(t:TypeId)(f:Nat)(b:Array (Nat×Operand))(ho:o.op= .buildSlice t f b){S:St}
  (q:((T t).bind λi=>i.sl.bind λe=>(T e).bind λj=>(st.evUs b.toList).bind (FG j f o.dst st))=some S):StepOk P M Z w0 o S a w:=by
 simp only[jzd]at q;obtain⟨i,hi,e,he,j,hj,l,hl,q⟩:=q;unfold FG at q;split at q
 case isFalse=>cases q
 case isTrue E=>
  simp only[jzd]at q;obtain⟨cs,K,q⟩:=q;obtain⟨info,d,ht⟩:=Be (hT t i hi);obtain⟨r,de,m⟩:=Be (hT e j hj);obtain⟨z,hz,hzc⟩:=m.zero;obtain⟨hl1,hl2⟩:=Ns h hl;have N:RepL (RepC ρ w Z) j.zero z.cells.toList:=Ep hzc;have Q:z.cells.size=j.size:=by have:=N.1;simp at this;rw[<-this,m.zlen]
  have y:=Rp N f;rw[Q]at y;obtain⟨H,hv,X⟩:=KF y hl1 hl2 K;have J:H.toList.length=f*j.size:=by
   rw[<-X.1,Uv K,Hp,m.zlen]
  have hroom:f<=maxLen:=J4 E.2;have v:(execOp a.eval o).run P w= .ok (.value (.slice (some ⟨w.heap.size,0,none⟩) f f)) (w.alloc (.cells H e)):=by
   have G:(b.map λ(i,x)=>(i,a.eval x)).toList=b.toList.map λp=>(p.1,a.eval p.2):=QX a b;by_cases Y:f*j.size=0
   ·have W:Instr.fill (λi=>some (i*j.size,j.size)) #[] (b.map λ(i,x)=>(i,a.eval x)).toList=some H:=by
     rw[G,<-hv];simp[Y,Array.range_zero',F3];rfl
    rw[G]at W;simp[execOp,ho,Instr.buildSlice,run_underlying (ht.slice he),m.sizeOf,Y,newRow,W,Array.range_zero']
   ·have W:Instr.fill (λi=>some (i*r.size,r.size)) ((Array.range (f*r.size)).map (z.cells[· %z.cells.size]!)) (b.map λ(i,x)=>(i,a.eval x)).toList=some H:=by
     rw[G,<-hv,m.size,Q];rfl
    have:=run_buildSlice (P:=P) w t e f (b.map λ(i,x)=>(i,a.eval x)) H r z (ht.slice he) m.inf hz (by rw[m.size];omega) (by rw[m.size];exact Y) W;simp only[execOp,ho,Sem.run_bind,this,Result.andThen_ok,Sem.run_pure]
  split at q
  ·rename_i I;obtain⟨k,hk,rfl⟩:=F8 q;have F:cs.length=f:=by have:=X.1;rw[J,I.1]at this;omega
   have g:=h.newBox k e X (by rw[F];exact hroom);rw[Array.toArray_toList]at g;refine .at hk hd (x:= .slice (some ⟨w.heap.size,0,none⟩) f f) v g ⟨_,Cd _ _ _,by simp[BB,F],.inr ⟨rfl,_,_,rfl,AO _,hroom,.inr (by simp[BB,Own.at]),λhh=>by simp[BB]at hh⟩⟩
  ·rw[jzd]at q;obtain⟨p,hp,q⟩:=q;obtain⟨k,hk,rfl⟩:=F8 q;obtain⟨ds,s1⟩:=p;obtain⟨L,hds⟩:=h.shut hp X;have g:=L.newRow (Ext.refl w) rfl k [] e true hds (by simpa using J) hroom;simp only[List.append_nil,Array.toArray_toList]at g;refine .at hk hd (x:= .slice (some ⟨w.heap.size,0,none⟩) f f) v g (KM _ w (w.alloc (.cells H e)) Z k _ _ _ (AO _) hroom)
theorem jbg(h:Rel M Z w0 ρ st a w)(hT:Dk P T)(hd: ∀d,o.dst=some d->d<a.tmps.size)(t:TypeId)(x y:Operand)(ho:o.op= .makeSlice t x y){st':St}
  (E:((T t).bind λi=>i.sl.bind λe=>(T e).bind λj=>(st.evI x).bind λl=>(st.evI y).bind λc=>FC j o.dst st l.2 c.2)=some st'):StepOk P M Z w0 o st' a w:=by
 simp only[jzd]at E;obtain⟨i,hi,e,he,j,hj,⟨kl,l⟩,hl,⟨kc,c⟩,hc,E⟩:=E;unfold FC at E;split at E
 case isFalse=>cases E
 case isTrue Q=>
  obtain⟨h0,Y,X,K⟩:=Q;unfold CP at X K;simp only at h0 Y X K;rw[jzd]at E;obtain⟨ds,hds,E⟩:=E;obtain⟨k,hk,rfl⟩:=F8 E;obtain⟨info,d,ht⟩:=Be (hT t i hi);obtain⟨infe,de,g⟩:=Be (hT e j hj);obtain⟨z,m,hzc⟩:=g.zero;have hzr:RepL (RepC ρ w Z) j.zero z.cells.toList:=Ep hzc;have J:z.cells.size=j.size:=by have:=hzr.1;simp at this;rw[<-this,g.zlen]
  obtain⟨S,hm2⟩:=Dl hds;have hzd: ∀(F:C) (v:Value) (x:D),HC F v=true->st.cD F=some x->RepD w (Ar ρ Z) x v:=by
   intro F v x m b;unfold HC at m;split at m<;>simp at m
   ·obtain⟨rfl,rfl⟩:=m;simp[St.cD,toD]at b;subst b;exact .int _ _
   ·subst m;simp[St.cD,toD]at b;subst b;exact .bool _
   ·obtain⟨rfl,rfl⟩:=m;simp[St.cD,toD]at b;subst b;exact .str _
   ·simp[St.cD,toD]at b;subst b;exact .snil
   ·simp[St.cD,toD]at b;subst b;exact .nilPtr
   ·simp[St.cD,toD]at b;subst b;exact .nilFn
   ·simp[St.cD,toD]at b;subst b;exact .lit _ rfl
   ·simp[St.cD,toD]at b;subst b;exact .lit _ rfl
  have zc: ∀{cs:List C} {vs:List Value},E5 cs vs=true-> ∀(q:Nat) (F:C) (v:Value),cs[q]? =some F->vs[q]? =some v->HC F v=true:=by
   intro cs
   induction cs with
   |nil=>intro vs _ q F v f;simp at f
   |cons c r ih=>
    intro vs m q F v f I;cases vs with
    |nil=>simp at I
    |cons v0 s=>
     simp only[E5,AR]at m;cases q with
     |zero=>simp at f I;subst f;subst I;exact m.1
     |succ q=>exact ih m.2 q F v (by simpa using f) (by simpa using I)
  have hdz:RepL (RepD w (Ar ρ Z)) ds z.cells.toList:=by
   refine⟨S.trans hzr.1,λq x v b I=> ?_⟩;have f:q<j.zero.length:=by rw[<-S];exact(jzg.1 b).1
   obtain⟨y',hy',hf⟩:=hm2 q _ (AD f);rw[b]at hy';cases hy';exact hzd _ v _ (zc hzc q _ v (AD f) I) hf
  have W: ∀n:Nat,RepL (RepD w (Ar ρ Z)) (rep n ds) (madeCells z.cells (n*j.size)).toList:=by
   intro n;have G:ds.length=j.size:=by rw[S,g.zlen]
   refine⟨by simp[Hp,G,size_madeCells],λq x v b I=> ?_⟩;have f:q<n*j.size:=by rw[<-G,<-Hp];exact(jzg.1 b).1
   have hpos:0<j.size:=by
    rcases Nat.eq_zero_or_pos j.size with h0|h0
    ·rw[h0]at f;omega
    ·exact h0
   have p:q%j.size<j.size:=Nat.mod_lt _ hpos;rw[Si n ds q (by rw[G];exact f),G]at b;have hv':v=z.cells[q%j.size]'(by rw[J];exact p):=by
    simp[madeCells,f,J]at I;rw[<-I];rw[getElem!_pos z.cells (q%j.size) (by rw[J];exact p)]
   subst hv';exact hdz.2 (q%j.size) x _ b (by simp[J,p])
  have N:=run_make (P:=P) w t e infe z (ht.slice he) g.inf m kl kc l c h0 Y (by rw[g.bytes];rw[Int.mul_comm];omega) O;rw[g.size]at N;have H:(madeCells z.cells (c.toNat*j.size))=((madeCells z.cells (l.toNat*j.size)).toList++((madeCells z.cells (c.toNat*j.size)).toList.drop (l.toNat*j.size))).toArray:=by
   apply Array.ext';simp only[];apply List.ext_getElem?;intro q;have hle:l.toNat*j.size<=c.toNat*j.size:=BC _ O;by_cases f:q<l.toNat*j.size
   ·rw[List.getElem?_append_left (by simpa [size_madeCells]using f)];simp[madeCells,f,show q<c.toNat*j.size by omega]
   ·rw[List.getElem?_append_right (by simpa [size_madeCells]using f),List.getElem?_drop];congr 1;simp[size_madeCells];omega
  have hx1:Ext w w:=Ext.refl w;have hroom:c.toNat<=maxLen:=by unfold maxLen;omega
  have L:=h.newRow hx1 rfl k (sz:=j.size) (room:=c.toNat) ((madeCells z.cells (c.toNat*j.size)).toList.drop (l.toNat*j.size)) e true (W l.toNat) (by
   simp[size_madeCells];have hle:l.toNat*j.size<=c.toNat*j.size:=BC _ O;omega) hroom
  rw[<-H]at L;refine .at hk hd (x:= .slice (some ⟨w.heap.size,0,none⟩) l.toNat c.toNat) ?_ L (KM _ w (w.alloc (.cells (madeCells z.cells (c.toNat*j.size)) e)) Z k _ _ _ O hroom);have e1:=h.evI hl;have e2:=h.evI hc;simp only at e1 e2;simp only[execOp,ho,e1,e2,Sem.run_bind,N,Result.andThen_ok,Sem.run_pure]
end
end Go.Va
namespace Go.Va
open Builtin renaming firstCells → aD, zeroCells → aG, append_ → aH, nextslicecap → aI, lenOf → aS
open _root_.List renaming getElem?_append_right → aJ, getElem?_append_left → aL, length_append → aM, map_toArray → aT, map_cons → aU, map_nil → aW
open _root_.Array renaming length_toList → aN, getElem?_toList → aR
open _root_.Nat renaming add_mul → aO, eq_zero_or_pos → aP
open Go.RowKit
variable [DrC]
variable [Gv]
variable{i:TypeInfo}{d:TypeDesc}{t ty e:TypeId}
section
variable {P:Program} {T:AH} {M Z:Addr->Prop} {w0 w:World} {ρ:AE} {st:St} {a:Act}
theorem RepL.append{α:Type}{r:α->Value->Prop}{e i:List α}{vs g:List Value}(h:RepL r e vs)(k:RepL r i g):RepL r (e++i) (vs++g):=by
 refine⟨by simp[h.1,k.1],λj x v b a=> ?_⟩;by_cases f:j<e.length
 ·rw[aL f]at b;rw[aL (by rw[<-h.1];exact f)]at a;exact h.2 j x v b a
 ·rw[aJ O]at b;rw[aJ (by rw[<-h.1];omega),<-h.1]at a;exact k.2 _ x v b a
theorem RepL.keepD{Z':Addr->Prop}{w':World}{a:List D}{vs:List Value}(h:RepL (RepD w Z) a vs)(b:Keep w w' Z Z'):RepL (RepD w' Z') a vs:=
 ⟨h.1,λj x v f e=>(h.2 j x v f e).keep b⟩
theorem Rel.congr{s s':St}(h:Rel M Z w0 ρ s a w)(e: ∀k,lk k s'.t=lk k s.t)(f: ∀k,lk k s'.h=lk k s.h):Rel M Z w0 ρ s' a w where
 fr:=h.fr
 heap:=⟨h.heap.owns,λi b g=>h.heap.rep i b O3⟩
 mine:=h.mine
 out:=h.out
 mz:=h.mz
 tmps:=λt v j=>h.tmps t v O3
 defers:=h.defers
 mps:=h.mps
theorem Rel.move(h:Rel M Z w0 ρ st a w){i d:Nat}{o:Own}(hi:ρ i=some o){sz:Nat}{cs:List D}{app:Bool}(hb:lk i st.h=some (.row sz cs app)):
  Rel M Z w0 (BW (Cb ρ i) d o) ((st.drop i).new d (.row sz cs app)) a w:=by
 have E: ∀j f,BW (Cb ρ i) d o j=some f->(j=d/\f=o)\/(j≠d/\ ∃F,ρ j=some F/\((j=i/\f=F.dead)\/(j≠i/\f=F))):=λj f l=>by
  by_cases e:j=d
  ·subst e;rw[Cd]at l;grind
  grind[Gn,jdb]
 have m: ∀j f p,BW (Cb ρ i) d o j=some f->f.has p->(j=d/\f=o)\/(j≠d/\j≠i/\ρ j=some f):=λj f p l Q=>by
  rcases E j f l with h1|⟨h1,F,h2,⟨_,rfl⟩|⟨z,rfl⟩⟩
  ·exact .inl h1
  ·exact absurd Q (F.dead_has p)
  grind
 have hout: ∀p,Ar (BW (Cb ρ i) d o) Z p->Ar ρ Z p:=λp L=>by
  rcases L with L|⟨j,f,l,L⟩
  ·exact .inl L
  ·rcases m j f p l L with⟨_,rfl⟩|⟨_,_,z⟩
   ·exact .inr ⟨i,f,hi,L⟩
   ·exact .inr ⟨j,f,z,L⟩
 have hk:Keep w w (Ar ρ Z) (Ar (BW (Cb ρ i) d o) Z):=Keep.mono hout;have G: ∀j f,j≠d->ρ j=some f->BW (Cb ρ i) d o j=some (if j=i then f.dead else f):=λj f e l=>by
  rw[Gn _ _ e];unfold Cb;grind[BZ,BG]
 have H:Cf ρ (BW (Cb ρ i) d o) w w Z (Bm d):=λc v I=>by
  cases c with
  |d x=>exact RepD.keep hk I
  |nl=>exact I
  |bad=>exact I
  |sl j off n=>
   simp only[C.on,Bm];by_cases e:j=d
   ·simp only[e,if_true];exact RepC.one I
   ·simp only[e,if_false];obtain⟨f,y,r⟩:=I;refine⟨_,G j f e y,?_⟩;split<;>exact r
  |ptr j off=>
   simp only[C.on,Bm];by_cases e:j=d
   ·simp only[e,if_true];exact RepC.one I
   ·simp only[e,if_false];obtain⟨f,y,r⟩:=I;refine⟨_,G j f e y,?_⟩;split<;>exact r
  |mp q j=>
   simp only[C.on,Bm];by_cases e:j=d
   ·simp only[e,if_true];exact RepC.one I
   ·simp only[e,if_false];obtain⟨f,y,r⟩:=I;refine⟨_,G j f e y,?_⟩;have eg:(if j=i then f.dead else f).g=f.g:=by split<;>rfl
    grind
 exact {
  fr:=h.fr
  heap:=⟨⟨λj f l hn=>by
    rcases E j f l with⟨_,rfl⟩|⟨_,F,z,⟨_,rfl⟩|⟨_,rfl⟩⟩
    ·exact h.heap.owns.cells i f hi hn
    ·cases hn
    ·exact h.heap.owns.cells j f z hn,
   λj j' F N l S T p Y P=>by
    rcases m j F p l Y with⟨rfl,rfl⟩|⟨n1,n2,z⟩
    ·rcases m j' N p S P with⟨rfl,rfl⟩|⟨n1',n2',J⟩
     ·omega
     ·exact h.heap.owns.apart i j' F N hi J O p Y P
    ·rcases m j' N p S P with⟨rfl,rfl⟩|⟨n1',n2',J⟩
     ·exact h.heap.owns.apart j i F N z hi n2 p Y P
     ·exact h.heap.owns.apart j j' F N z J T p Y P,
   λj f l=>by
    rcases E j f l with⟨_,rfl⟩|⟨_,F,z,⟨_,rfl⟩|⟨_,rfl⟩⟩
    ·exact h.heap.owns.lim i f hi
    ·exact h.heap.owns.lim j F z
    ·exact h.heap.owns.lim j f z⟩,
   λj b l=>by
    by_cases e:j=d
    ·subst e;simp only[St.new,St.blk]at l;rw[Bt]at l;cases l;obtain⟨f,y,W⟩:=h.heap.rep i _ hb;obtain rfl:f=o:=O3;obtain⟨q1,q2,q3,q4,q5⟩:=W;exact⟨f,Cd _ _ _,q1,q2,q3,q4,λk x hx=>by obtain⟨v,X,hd⟩:=q5 k x hx;exact⟨v,X,hd.keep hk⟩⟩
    ·simp only[St.new,St.blk]at l;rw[BD e,BR e]at l;rw[JG]at l;obtain⟨_,l⟩:=Hk l;simp only[St.on,St.drop]at l;rw[BN,jze]at l;obtain⟨b0,K,rfl⟩:=l;obtain⟨T,K⟩:=Hk K;obtain⟨f,y,W⟩:=h.heap.rep j b0 K;refine⟨f,O3,?_⟩;exact W.turn H hk (λ_ _ _=>rfl) (λ_ _ _ h=>h)⟩
  mine:=λj f p l Q=>by
   rcases m j f p l Q with⟨_,rfl⟩|⟨_,_,z⟩
   ·exact h.mine i f p hi Q
   ·exact h.mine j f p z Q
  out:=h.out
  mz:=h.mz
  tmps:=λt v X=>by
   simp only[St.new,St.blk,JG,St.on,St.drop]at X;rw[BN,jze]at X;obtain⟨v0,hv0,rfl⟩:=X;exact(h.tmps t v0 hv0).turn H
  defers:=h.defers
  mps:=h.mps.sub λj f l hm=>by
   rcases E j f l with⟨_,rfl⟩|⟨_,F,z,⟨_,rfl⟩|⟨_,rfl⟩⟩
   ·obtain⟨N,ho2,W⟩:=h.heap.rep i _ hb;obtain rfl:N=f:=O3;exact absurd hm (W.nomp O1)
   ·cases hm.2
   ·exact z }
theorem NT(h:Rel M Z w0 ρ st a w){j:TI}{c:C}{v:Value}{m:Nat}{ds:List D}(G:RepC ρ w Z c v)(e:st.src j c=some (m,ds)):
  ∃A cap vs,v= .slice A m cap/\RepL (RepD w (Ar ρ Z)) ds vs/\vs.length=m*j.size/\ ∀k,k<=m-> ∀w':World,w'.heap=w.heap->(aD j.size k v).run P w'= .ok (vs.take (k*j.size)).toArray w':=by
 have f:v= .slice none 0 0->m=0->ds=[]-> ∃A cap vs,v= .slice A m cap/\RepL (RepD w (Ar ρ Z)) ds vs/\vs.length=m*j.size/\ ∀k,k<=m-> ∀w':World,w'.heap=w.heap->(aD j.size k v).run P w'= .ok (vs.take (k*j.size)).toArray w':=by
  rintro rfl rfl rfl;exact⟨none,0,[],rfl,⟨rfl,O1⟩,O1,(by simp_all[aD])⟩
 have g: ∀(l:Addr) (cap:Nat),v= .slice (some l) m cap->ds.length=m*j.size->(ds≠[]->l.spot=none)->
   (∀(q:Nat) (x:D),ds[q]? =some x-> ∃u,w.cell? ⟨l.block,l.off+q,none⟩=some u/\RepD w (Ar ρ Z) x u)->
   ∃A cap vs,v= .slice A m cap/\RepL (RepD w (Ar ρ Z)) ds vs/\vs.length=m*j.size/\ ∀k,k<=m-> ∀w':World,w'.heap=w.heap->(aD j.size k v).run P w'= .ok (vs.take (k*j.size)).toArray w':=by
  intro l cap T E I p;obtain⟨vs,y,N⟩:=Iz (r:=RepD w (Ar ρ Z)) ds (λq=>w.cell? ⟨l.block,l.off+q,none⟩) p;have J:vs.length=m*j.size:=by rw[<-y.1,E]
  refine⟨_,_,vs,T,y,J,λk hk w' hw=> ?_⟩;rw[T];refine run_firstCells_some (P:=P) w' j.size k l m cap (vs.take (k*j.size)) (by simp_all) λq u H=> ?_;rw[List.getElem?_take]at H;split at H<;>try (cases H;done)
  have hne:ds≠[]:=O3;grind[Il,World.cell?]
 cases c with
 |nl=>cases e;exact f G rfl rfl
 |bad=>simp[St.src]at e
 |ptr=>simp[St.src]at e
 |mp=>simp[St.src]at e
 |d x=>
  cases x<;>simp only[St.src]at e<;>try cases e
  case slice n L=>
   split at e<;>cases e;rename_i E;cases G with
   |snil=>grind
   |slice _ _ l cap vs I S hm h1 h2 h3=>grind
 |sl i z n=>
  simp only[St.src,jzd]at e;obtain⟨b,X,e⟩:=e;cases b with
  |box=>cases e
  |fbox=>cases e
  |mp=>cases e
  |gh=>cases e
  |row sz L app=>
   simp only at e;split at e<;>cases e;rename_i t;obtain⟨rfl,Q⟩:=t;obtain⟨o,ho,_,hcase⟩:=G;obtain⟨K,ho',hr⟩:=h.heap.rep i _ X;obtain rfl:K=o:=O3;obtain⟨q1,q2,q3,q4,q5⟩:=hr;rcases hcase with⟨S,rfl,rfl,rfl⟩|⟨S,l,cap,rfl,hnc,Y,W,_⟩
   ·exact f rfl rfl (by simp[cut])
   ·have E:(cut (z*j.size) (m*j.size) L).length=m*j.size:=by
     grind[aO,cut]
    rcases aP m with hm0|hm0
    ·simp_all
    ·have F:l=K.at (z*K.sz):=by
      grind
     subst F;refine g _ cap rfl E (λ_=>rfl) λq x hx=> ?_;rw[getElem?_cut]at hx;grind
theorem VL(h:Rel M Z w0 ρ st a w){j:TI}{c:C}{v:Value}{m:Nat}{ds:List D}(b:RepC ρ w Z c v)(e:st.src j c=some (m,ds)):
  ∃A cap vs,v= .slice A m cap/\RepL (RepD w (Ar ρ Z)) ds vs/\vs.length=m*j.size/\ ∀w':World,w'.heap=w.heap->(aD j.size m v).run P w'= .ok vs.toArray w':=by
 obtain⟨A,cap,vs,f,g,i,k⟩:=NT (P:=P) h b e;grind
theorem jkz{p:TypeId}{k:TypeDesc}(o:P.underlying t=some (.slice e))(h:P.underlying p=some k)(f:k= .slice e\/k= .string)(hi:P.info? e=some i)(base:Option Addr)(n c m:Nat){l:Value}(g:aS l=pure m)(news:List Value){w':World}
  (a:(aD i.size m l).run P w= .ok news.toArray w) (hroom:n+m<=c)
  (b: ∀j,base=some j->(storeCells (j.add (n*i.size)) news).run P w= .ok () w') (q:base=none->w'=w):
  (aH #[t,p] ty #[.slice base n c,l]).run P w= .ok (.slice base (n+m) c) w':=by
 cases base with
 |none=>
  obtain rfl:=q rfl;rcases f with rfl|rfl<;>simp[aH,run_underlying o,run_underlying h,sizeOf,typeInfo,hi,g,hroom,a]
 |some j=>
  have b:=b j rfl;rcases f with rfl|rfl<;>simp[aH,run_underlying o,run_underlying h,sizeOf,typeInfo,hi,g,hroom,a,b]
theorem je1{x:TypeId}{j:TypeDesc}{z:Value}(E:P.underlying t=some (.slice e))(p:P.underlying x=some j)(l:j= .slice e\/j= .string)(hi:P.info? e=some i)(F:i.zero=some z)(base:Option Addr)(n c m:Nat){q:Value}(o:aS q=pure m)(a news:List Value)
  (f:(aD i.size n (.slice base n c)).run P w.drew= .ok a.toArray w.drew)
  (b:(aD i.size m q).run P w.drew= .ok news.toArray w.drew) (G:c<n+m) (k:(n+m)*i.bytes<=140737488355328) (r:n+m<=140737488355328):
  (aH #[t,x] ty #[.slice base n c,q]).run P w=
   .ok (.slice (some ⟨w.heap.size,0,none⟩) (n+m) (grownCap w (n+m) c e)) (w.drew.alloc (.cells (a++(news++(aG z.cells (grownCap w (n+m) c e - (n+m))).toList)).toArray e)):=by
 have y: ¬(n+m<=c):=O;have h: ¬(9223372036854775807<((n:Int)+(m:Int))):=O;have v:aI (n+m) c*i.bytes<=281474976710656:=growslice_fits O k;have g: ¬(281474976710656<aI (n+m) c*i.bytes):=O;rcases l with rfl|rfl
 all_goals
  simp[aH,run_underlying E,run_underlying p,sizeOf,typeInfo,zeroValue,hi,F,o,y,h,g,Question.forced,b,f,newRow,grownCap];congr 2;simp
theorem Zz{i:TI}{info:TypeInfo}(a:TyOk P t i info d)(h:MF i=true): ∃k,P.underlying t=some (.int k):=by
 have f:=a.desc;unfold MF at h;split at h
 ·rename_i b e;cases d<;>simp[Ct,b,e]at f;exact⟨_,a.und⟩
 ·cases h
theorem jef{y:TypeId}{k:IntKind}{z:Value}(r:P.underlying t=some (.slice e))(j:P.underlying y=some (.int k))(hi:P.info? e=some i)(x:i.zero=some z)(n:Nat)(E:0<n)
  (m:n*i.bytes<=140737488355328) (o:n<=140737488355328):
  (aH #[t,y] ty #[.slice none 0 0,.int .i64 n]).run P w=
   .ok (.slice (some ⟨w.heap.size,0,none⟩) n (grownCap w n 0 e)) (w.drew.alloc (.cells ((if n*i.size=0 then #[] else aG z.cells n).toList++(aG z.cells (grownCap w n 0 e - n)).toList).toArray e)):=by
 have v:IntKind.i64.wrap (n:Int)=n:=by rw[IntKind.wrap_i64];omega
 have q: ¬(n<=0):=O;have f: ¬((n:Int)<0):=O;have b: ¬(9223372036854775807<(n:Int)):=O;have h: ¬(281474976710656<(n:Int)*(i.bytes:Int)):=by
  omega
 have p:aI n 0*i.bytes<=281474976710656:=growslice_fits E m;have a: ¬(281474976710656<aI n 0*i.bytes):=O;by_cases l:n*i.size=0
 ·have g: ¬n=0:=O;simp[aH,run_underlying r,run_underlying j,sizeOf,typeInfo,zeroValue,hi,x,asInt,asIntOf,v,f,h,aD,q,g,b,a,Question.forced,newRow,grownCap,l]
 ·have g: ¬n=0:=O;simp[aH,run_underlying r,run_underlying j,sizeOf,typeInfo,zeroValue,hi,x,asInt,asIntOf,v,f,h,aD,q,g,b,a,Question.forced,newRow,grownCap,l]
  try (congr 2;simp)
theorem OL(h:Rel M Z w0 ρ st a w)(hT:Dk P T){o:Oper}{d:Nat}(L:o.dst=some d)(hd: ∀d,o.dst=some d->d<a.tmps.size)(t t':TypeId)(x y:Operand)
  (ho:o.op= .call { callee:= .builtin .append,args:= #[x,y],argTypes:= #[t,t'] }) {st':St} {i:TI} {e:Nat} {j:TI} {c:C} {d':TypeDesc} (ht':P.underlying t'=some d') (hd':d'= .slice e\/d'= .string)
  (hi:T t=some i) (he:i.sl=some e) (hj:T e=some j) (hc:st.evC x=some c) {m:Nat} {ds:List D} {vy:Value} {news:List Value} (hvy:a.eval y=vy) (hly:aS vy=pure m) (I:RepL (RepD w (Ar ρ Z)) ds news) (hnl:news.length=m*j.size)
  (G: ∀w':World,w'.heap=w.heap->(aD j.size m vy).run P w'= .ok news.toArray w') (f:st.app j d c ds m=some st'):StepOk P M Z w0 o st' a w:=by
 obtain⟨info,dd,ht⟩:=Be (hT t i hi);obtain⟨infe,de,E⟩:=Be (hT e j hj);obtain⟨z,hz,hzc⟩:=E.zero;have hzr:RepL (RepC ρ w Z) j.zero z.cells.toList:=Ep hzc;have hzs:z.cells.size=j.size:=by have:=hzr.1;simp at this;rw[<-this,E.zlen]
 have N: ∀{v:Value} {w':World},(aH #[t,t'] o.type #[a.eval x,vy]).run P w= .ok v w'->(execOp a.eval o).run P w= .ok (.value v) w':=(by simp_all[execOp,resolve,invoke,builtin,Sem.run_bind,Sem.run_pure,Result.andThen_ok,aT,aU,aW])
 have grow: ∀{ρ1:AE} {s1:St} (h1:Rel M Z w0 ρ1 s1 a w) (hsub: ∀W,Ar ρ1 Z W->Ar ρ Z W) (base:Option Addr) (n c:Nat) (cs:List D) (p:List Value),a.eval x= .slice base n c->
   RepL (RepD w (Ar ρ Z)) cs p->p.length=n*j.size->(∀w':World,w'.heap=w.heap->(aD j.size n (.slice base n c)).run P w'= .ok p.toArray w')->c<n+m->
   s1.appGo j d cs n ds m=some st'->StepOk P M Z w0 o st' a w:=by
  intro ρ1 s1 h1 hsub base n c cs p F hcs hol hfo hg f;unfold St.appGo at f;split at f
  case isFalse=>cases f
  case isTrue J=>
   cases f;obtain⟨hby,hbig⟩:=J;unfold CP at hby hbig;have Q:=je1 (P:=P) (w:=w) (ty:=o.type) (ht.slice he) ht' hd' E.inf hz base n c m hly p news (by rw[E.size];exact hfo w.drew rfl) (by rw[E.size];exact G w.drew rfl) hg (by rw[E.bytes];exact hby) hbig;have hcap:=grownCap_ge w (n+m) c e;have Y:grownCap w (n+m) c e<=maxLen:=grownCap_le_maxLen w (n+m) c e (by unfold maxLen;omega);have hk:Keep w w (Ar ρ Z) (Ar ρ1 Z):=Keep.mono hsub;have hlen:(p++news).length=(n+m)*j.size:=by rw[aM,hol,hnl,aO]
   have hrow:=h1.newRow (Ext.drew w) rfl d (sz:=j.size) (room:=grownCap w (n+m) c e) (aG z.cells (grownCap w (n+m) c e - (n+m))).toList e true ((hcs.append I).keepD hk) (by
    rw[aM,hlen];simp only[aN,size_zeroCells,hzs];rw[<-aO];congr 1;omega) Y
   rw[List.append_assoc]at hrow;rw[<-F]at Q;exact .at L hd (N Q) hrow (KM _ w w Z d _ _ _ hcap Y)
 have hxr:=h.evC hc;cases c with
 |nl=>
  simp only[St.app]at f;have F:a.eval x= .slice none 0 0:=hxr;rcases aP m with hm|hm
  ·subst hm;have hd0:ds=[]:=by have:=I.1;grind
   have K:news=[]:=O3;subst hd0;subst K;unfold St.appGo at f;split at f<;>cases f;have Q:=jkz (P:=P) (w:=w) (ty:=o.type) (ht.slice he) ht' hd' E.inf none 0 0 0 hly [] (w':=w) (by rw[E.size];exact G w rfl) (AO _) O1 (λ_=>rfl);rw[<-F]at Q;have S:=h.new (Ext.refl w) d (o:={ g:=0,o:=0,sz:=j.size,room:=0,app:=true,nil:=true }) (b:= .row j.size ([]++[]) true)
    (λW hh=>by cases hh.1) O1 (by simp[maxLen]) ⟨rfl,rfl,O1,O1,O1⟩
   exact .at L hd (N Q) S ⟨_,Cd _ _ _,O1,O3⟩
  ·exact grow h (λ_ h=>h) none 0 0 [] [] F ⟨rfl,O1⟩ O1 (by simp_all[aD]) O f
 |bad=>simp[St.app]at f
 |ptr=>simp[St.app]at f
 |mp=>simp[St.app]at f
 |d=>simp[St.app]at f
 |sl b off n=>
  simp only[St.app,jzd]at f;obtain⟨blk,hb,f⟩:=f;cases blk with
  |box=>cases f
  |fbox=>cases f
  |mp=>cases f
  |gh=>cases f
  |row sz cs app=>
   simp only at f;have hwhich: ∃cs',(∀(q:Nat) (x:D),cs'[q]? =some x->cs[q]? =some x)/\cs'.length<=cs.length/\(app=true/\off=0/\sz=j.size/\cs'.length=n*sz)/\(st.drop b).appGo j d cs' n ds m=some st':=by
    grind
   clear f;obtain⟨cs0,hsub0,hlen0,J,f⟩:=hwhich
   first
   |skip
    obtain⟨rfl,rfl,rfl,hcl⟩:=J;obtain⟨ow,how,hroom,hcase⟩:=hxr;obtain⟨l,ho2,Q⟩:=h.heap.rep b _ hb;obtain rfl:l=ow:=O3;obtain⟨q1,q2,q3,q4,q5⟩:=Q;replace q3:=Nat.le_trans hlen0 q3;replace q5:=λ(q:Nat) (x:D) (hx:cs0[q]? =some x)=>q5 q x (hsub0 q x hx);clear hsub0 hlen0 hb;clear cs;obtain⟨cs,rfl⟩: ∃cs,cs=cs0:=⟨_,rfl⟩;have hp1:=h.drop b;rcases hcase with⟨S,F,_,rfl⟩|⟨S,W,cap,F,hnc,hcm,had,X⟩
    ·have hcs0:cs=[]:=O3;subst hcs0;rcases aP m with hm|hm
     ·subst hm;have hd0:ds=[]:=by have:=I.1;grind
      have K:news=[]:=O3;subst hd0;subst K;unfold St.appGo at f;split at f<;>cases f;have Q:=jkz (P:=P) (w:=w) (ty:=o.type) (ht.slice he) ht' hd' E.inf none 0 0 0 hly [] (w':=w) (by rw[E.size];exact G w rfl) (AO _) O1 (λ_=>rfl);rw[<-F]at Q;have S:=hp1.new (Ext.refl w) d (o:={ g:=0,o:=0,sz:=j.size,room:=0,app:=true,nil:=true }) (b:= .row j.size ([]++[]) true)
       (λW hh=>by cases hh.1) O1 (by simp[maxLen]) ⟨rfl,rfl,O1,O1,O1⟩
      exact .at L hd (N Q) S ⟨_,Cd _ _ _,O1,O3⟩
     ·exact grow hp1 (λ_=>Jj) none 0 0 [] [] F ⟨rfl,O1⟩ O1 (by simp_all[aD]) O f
    ·have hn0:=S;replace S:l.gone=false:=q4.2.trans S;obtain⟨p,hol,hget⟩:=Iz (r:=RepD w (Ar ρ Z)) cs (λq=>w.cell? (l.at q)) q5;have holl:p.length=n*j.size:=by rw[<-hol.1,hcl]
     by_cases hfit:n+m<=cap
     ·
      unfold St.appGo at f;split at f
      case isFalse=>cases f
      case isTrue hcond2=>
       cases f;have H:n*l.sz+news.length<=l.room*l.sz:=by
        rw[hnl,q1,<-aO];exact BC _ (by have:=X q2;omega)
       have hw:=h.write how S (off:=n*l.sz) (vs:=news) H (b:= .row j.size (cs++ds) true) λhk=>⟨q1,q2,by
         have:=H;rw[q1,hnl]at this;rw[aM,hcl,I.1,hnl];exact this,q4,λq x hx=>by
         rw[GI h how S H];by_cases hq:q<cs.length
         ·rw[aL hq]at hx;rw[if_neg (by rw[q1];omega)];obtain⟨v,hv,hdd⟩:=q5 q x hx;exact⟨v,hv,hdd.keep hk⟩
         ·rw[aJ O]at hx;have hq2:q - cs.length<ds.length:=(jzg.1 hx).1;have hq3:q - cs.length<news.length:=by rw[<-I.1];exact hq2
          rw[if_pos (by rw[q1];omega)];rw[show q - n*l.sz=q - cs.length by rw[q1,hcl]];exact⟨_,AD hq3,(I.2 _ _ _ hx (AD hq3)).keep hk⟩⟩
       have hmv:=hw.move (d:=d) how (sz:=j.size) (cs:=cs++ds) (app:=true) (by simp[St.blk,Bt]);have f:(storeCells (W.add (n*infe.size)) news).run P w= .ok () (w.setCells l.g (l.o+n*l.sz) news):=by
        rw[E.size];rcases had with hc0|hae
        ·have hm0:m=0:=O;subst hm0;have:news=[]:=List.eq_nil_of_length_eq_zero (by simpa using hnl);subst this;rfl
        ·subst hae;have hs2:=run_storeCells_cells (P:=P) l.g (l.o+n*l.sz) news 0 w (λq hq=>by
           obtain⟨⟨u,hu⟩,_⟩:=h.heap.owns.cells b l how S (n*l.sz+q) O;have he:(⟨l.g,l.o+n*l.sz+0+q,none⟩:Addr)=l.at (n*l.sz+q):=by simp;omega
           rw[he,hu];rfl) (λq hq=>by
           obtain⟨_,hf⟩:=h.heap.owns.cells b l how S (n*l.sz+q) O;have he:(⟨l.g,l.o+n*l.sz+0+q,none⟩:Addr)=l.at (n*l.sz+q):=by simp;omega
           rw[he,hf]) (λv hv=>by
           obtain⟨q,hq,rfl⟩:=List.getElem_of_mem hv;exact(I.2 q _ _ (AD (by rw[I.1];exact hq)) (AD hq)).one)
         have hea:(l.at (0*l.sz)).add (n*j.size)=⟨l.g,l.o+n*l.sz,none⟩:=by
          simp only[Own.at,X1];rw[q1];simp
         rw[hea];simpa using hs2
       have Q:=jkz (P:=P) (w:=w) (ty:=o.type) (ht.slice he) ht' hd' E.inf (some W) n cap m hly news (by rw[E.size];exact G w rfl) hfit (λad' h'=>by cases h';exact f) (λh'=>by cases h');rw[<-F]at Q;have hcg:Rel M Z w0 (BW (Cb ρ b) d l) ((st.drop b).new d (.row j.size (cs++ds) true)) a (w.setCells l.g (l.o+n*l.sz) news):=
        hmv.congr (λk=>by simp[St.new,St.blk,St.purge,St.on,St.drop]) (λk=>by
         by_cases ek:k=d
         ·subst ek;simp[St.new,St.blk,Bt]
         ·simp only[St.new,St.blk];rw[BD ek,BD ek,BR ek,BR ek];simp only[St.purge,St.on,St.drop];rw[BR ek,BR ek,BN,BN];congr 1;by_cases eb:k=b
          ·subst eb;rw[Ha,Ha]
          ·rw[BR eb,BR eb,BD eb,BR eb])
       refine .at L hd (N Q) hcg ⟨l,Cd _ _ _,?_,.inr ⟨hn0,W,cap,rfl,hfit,hcm,?_,λ_=> ?_⟩⟩
       ·have:=X q2;omega
       ·rcases had with h0|h1
        ·exact .inl h0
        ·exact .inr h1
       ·have:=X q2;omega
     ·refine grow hp1 (λ_=>Jj) (some W) n cap cs p F hol holl (λw' hw'=> ?_) O f;refine run_firstCells_some (P:=P) w' j.size n W n cap p holl λq u hq=> ?_;have hq':q<p.length:=O3;have hae:W=l.at (0*l.sz):=by
       grind
      simp_all[Nat.zero_mul,Own.at,X1,World.cell?]
theorem WR(h:Rel M Z w0 ρ st a w)(v:Dk P T){o:Oper}{d:Nat}(b:o.dst=some d)(F: ∀d,o.dst=some d->d<a.tmps.size)(t:TypeId)(x y:Operand)
  (H:o.op= .call { callee:= .builtin .append,args:= #[x,y],argTypes:= #[t,t] }) {f:St} {i:TI} {e:Nat} {j:TI} {c s:C} {p:Nat×List D}
  (hi:T t=some i) (z:i.sl=some e) (G:T e=some j) (E:st.evC x=some c) (J:st.evC y=some s) (I:st.src j s=some p) (q:st.app j d c p.2 p.1=some f):StepOk P M Z w0 o f a w:=by
 obtain⟨m,Q⟩:=p;obtain⟨A,L,news,r,g,l,k⟩:=VL (P:=P) (j:=j) h (h.evC J) I;obtain⟨info,N,K⟩:=Be (v t i hi);exact OL h v b F t t x y H (K.slice z) (.inl rfl) hi z G E r rfl g l O3 q
theorem jdM{i:TI}{info:TypeInfo}(a:TyOk P t i info d)(h:Ce i=true):P.underlying t=some .string:=by
 have j:=a.desc;unfold Ce at h;split at h
 ·rename_i b e f g;cases d<;>simp[Ct,b,e,f,g]at j;exact a.und
 ·cases h
theorem jhS(h:Rel M Z w0 ρ st a w)(H:Dk P T){o:Oper}{d:Nat}(g:o.dst=some d)(N: ∀d,o.dst=some d->d<a.tmps.size)(t p:TypeId)(x y:Operand)
  (X:o.op= .call { callee:= .builtin .append,args:= #[x,y],argTypes:= #[t,p] }) {m:St} {i k:TI} {e:Nat} {j:TI} {c:C} {s:ByteArray}
  (hi:T t=some i) (Q:i.sl=some e) (S:T e=some j) (W:T p=some k) (l:Ce k=true) (h1:j.size=1) (L:st.evC x=some c) (Y:st.evC y=some (.d (.str s))) (r:st.app j d c (J1 s) s.size=some m):StepOk P M Z w0 o m a w:=by
 obtain⟨J,dk,E⟩:=Be (H p k W);have F:a.eval y= .string s:=by
  have:=h.evC Y;generalize a.eval y=v at this;cases this;rfl
 refine OL h H g N t p x y X (jdM E l) (.inr rfl) hi Q S L (news:=(s.data.map λb=>Value.int .u8 b.toNat).toList) F rfl ?_ ?_ ?_ r
 ·refine⟨by simp[J1],λq z v G I=> ?_⟩;unfold J1 at G;rw[Bf,jze]at G;obtain⟨b,K,rfl⟩:=G;rw[aR,Array.getElem?_map,jze]at I;obtain⟨b',f,rfl⟩:=I;rw[<-aR,K]at f;cases f;exact .int _ _
 ·simp_all
 ·intro w' hw;have e:(s.extract 0 s.size).data=s.data:=by
   simp
  show(pure ((s.extract 0 s.size).data.map λb=>Value.int .u8 b.toNat):Sem _).run P w'=_;rw[e];rfl
theorem jjn(h:Rel M Z w0 ρ st a w)(L:Dk P T){o:Oper}{d:Nat}(p:o.dst=some d)(hd: ∀d,o.dst=some d->d<a.tmps.size)(t N:TypeId)(x y:Operand)
  (ho:o.op= .call { callee:= .builtin .append,args:= #[x,y],argTypes:= #[t,N] }) {K:St} {i k:TI} {e:Nat} {j:TI} {c s:C}
  (hi:T t=some i) (he:i.sl=some e) (hj:T e=some j) (hk:T N=some k) (hc:st.evC x=some c) (hs:st.evC y=some s) (b:J0 k j d st c s=some K):StepOk P M Z w0 o K a w:=by
 unfold J0 at b;split at b
 case h_3=>cases b
 case h_2 s0=>
  split at b
  ·rename_i hh;exact jhS h L p hd t N x y ho hi he hj hk hh.1 hh.2 hc hs b
  ·cases b
 case h_1 n=>
  split at b<;>cases b;rename_i r;obtain⟨G,h0,F,E⟩:=r;unfold CP at F E;obtain⟨info,dd,ht⟩:=Be (L t i hi);obtain⟨l,de,g⟩:=Be (L e j hj);obtain⟨infk,dk,S⟩:=Be (L N k hk);obtain⟨kk,Q⟩:=Zz S G;obtain⟨z,hz,Y⟩:=g.zero;have hzr:RepL (RepC ρ w Z) j.zero z.cells.toList:=Ep Y;have J:z.cells.size=j.size:=by have:=hzr.1;simp at this;rw[<-this,g.zlen]
  obtain⟨m,rfl⟩: ∃m:Nat,n=m:=⟨n.toNat,O⟩
  have W:a.eval x= .slice none 0 0:=h.evC hc;have X:a.eval y= .int .i64 (m:Int):=by
   have:=h.evC hs;generalize a.eval y=v at this;cases this;rfl
  have hr:=jef (P:=P) (w:=w) (ty:=o.type) (ht.slice he) Q g.inf hz m O (by rw[g.bytes];rw[<-Int.natCast_mul]at F;omega) O;have hcap:m<=grownCap w m 0 e:=by have:=grownCap_ge w m 0 e;omega
  have f:grownCap w m 0 e<=maxLen:=grownCap_le_maxLen w m 0 e (by unfold maxLen;omega);have H:=h.newRow (Ext.drew w) rfl d (sz:=j.size) (room:=grownCap w m 0 e) (ds:=[]) (vs:=[]) ((if m*l.size=0 then #[] else aG z.cells m).toList++(aG z.cells (grownCap w m 0 e - m)).toList) e true ⟨rfl,λq x v hx=>by simp at hx⟩ (by
   rw[List.nil_append,aM];have e1:(if m*l.size=0 then #[] else aG z.cells m).toList.length=m*j.size:=by
    rw[g.size];split
    ·simp_all
    ·simp only[aN,size_zeroCells,J]
   rw[e1];simp only[aN,size_zeroCells,J];rw[<-aO];congr 1;omega) f
  have I:(execOp a.eval o).run P w= .ok (.value (.slice (some ⟨w.heap.size,0,none⟩) m (grownCap w m 0 e))) (w.drew.alloc (.cells ((if m*l.size=0 then #[] else aG z.cells m).toList++(aG z.cells (grownCap w m 0 e - m)).toList).toArray e)):=by
   simp only[execOp,ho,resolve,invoke,builtin,Sem.run_bind,Sem.run_pure,Result.andThen_ok,aT,aU,aW,W,X,hr]
  exact .at p hd I H (KM _ w w Z d _ _ _ hcap f)
end
end Go.Va
