/- a part of the proof -/
import Derived.Test.YtlgoebgnbkhmmaaGreatDoorZab
import Derived.Laws.Tables
import Derived.Great.FillDense
import Derived.IntWalk
import Derived.Great.BuildSlice
import Derived.Laws.AppendOwn
set_option linter.all false
namespace Go.Va
open Go.RowKit
variable [Gv]
section
variable {P:Program} {T:AH} {M Z:Addr→Prop} {w0 w:World} {ρ:AE} {st:St} {a:Act}
theorem F8{d:Option Nat}{st st':St}{b:Blk}{c:Nat→C}(h:mk d st b c=some st'): ∃k,d=some k∧st'=(st.new k b).put (some k) (vC (c k)):=by
 unfold mk at h;rw[jze]at h
 grind
theorem StepOk.at{o:Oper}{k:Nat}(hk:o.dst=some k){v:V}{x:Value}{w':World}{ρ':AE}{s:St}(hd: ∀d,o.dst=some d→d<a.tmps.size)
  (hr:(execOp a.eval o).run P w= .ok (.value x) w') (h:Rel M Z w0 ρ' s a w') (hv:RepV ρ' w' Z v x):StepOk P M Z w0 o (s.put (some k) v) a w:=by
 grind[StepOk.new]
theorem N2(h:Rel M Z w0 ρ st a w){o:Oper}(hd: ∀d,o.dst=some d→d<a.tmps.size)(x:Operand)(ho:o.op= .move x∨o.op= .assign x){st':St}
  (hs:(st.ev x).map (fun v=>st.put o.dst v)=some st'):StepOk P M Z w0 o st' a w:=by
 rw[jze]at hs
 obtain⟨v,hv,rfl⟩:=hs
 exact .val h hd (x:=a.eval x) (by rcases ho with ho|ho<;>simp[execOp,ho]) (h.ev hv)
theorem jjJ(h:Rel M Z w0 ρ st a w)(_:A5 P T){o:Oper}(hd: ∀d,o.dst=some d→d<a.tmps.size)(ho:o.op= .assign (.const (.slice none 0 0))){st':St}
  (hs:GH T o.type o.dst st=some st'):StepOk P M Z w0 o st' a w:=by
 simp only[GH,jzd,jze]at hs;obtain⟨k,hk,i,_,e,_,j,_,rfl⟩:=hs;have hn:=h.new (Ext.refl w) k (o:={ g:=0,o:=0,sz:=j.size,room:=0,app:=true,nil:=true }) (b:= .row j.size [] true)
  (fun ad hh=>by cases hh.1) (by simp) (by simp[maxLen]) ⟨rfl,rfl,by simp,(by simp),(by simp)⟩
 exact .at hk hd (x:= .slice none 0 0) (by simp[execOp,ho,Act.eval]) hn ⟨_,Cd _ _ _,by simp,(by simp)⟩
theorem Y1(h:Rel M Z w0 ρ st a w){o:Oper}(hd: ∀d,o.dst=some d→d<a.tmps.size)(c x y:Operand)(ho:o.op= .pick c x y){st':St}
  (hs:((st.evB c).bind fun c=>(pickV c (st.ev x) (st.ev y)).map fun v=>st.put o.dst v)=some st'):StepOk P M Z w0 o st' a w:=by
 simp only[jzd,jze]at hs;obtain⟨b,hb,v,hv,rfl⟩:=hs;have hb':=h.evB hb;cases b with
 |true=>exact .val h hd (x:=a.eval x) (by simp[execOp,ho,hb',asBool]) (h.ev (by grind[pickV]))
 |false=>exact .val h hd (x:=a.eval y) (by simp[execOp,ho,hb',asBool]) (h.ev (by grind[pickV]))
theorem J4{n:Nat}(h:n≤10000):n≤maxLen:=by unfold maxLen;omega
theorem jbP(h:Rel M Z w0 ρ st a w)(hT:A5 P T){o:Oper}(hd: ∀d,o.dst=some d→d<a.tmps.size)(t:TypeId)(ho:o.op= .alloc t){st':St}
  (hs:((T t).bind fun i=>mk o.dst st (.box i.zero) fun d=> .ptr d 0)=some st'):StepOk P M Z w0 o st' a w:=by
 rw[jzd]at hs
 obtain⟨i,hi,hs⟩:=hs
 obtain⟨k,hk,rfl⟩:=F8 hs
 obtain⟨info,d,ht⟩:=Be (hT t i hi)
 obtain⟨z,hz,hzc⟩:=ht.zero
 have hb:=h.newBox k t (Ep hzc) (by rw[ht.zlen];exact J4 ht.small)
 refine .at hk hd (x:= .pointer (some ⟨w.heap.size,0,none⟩)) ?_ hb ⟨_,Cd _ _ _,rfl,by simp[BB]⟩
 simp[execOp,ho,Instr.alloc,zeroValue,typeInfo,ht.inf,hz,newVar,newRow]
theorem Rel.newFbox(h:Rel M Z w0 ρ st a w)(i:Nat){f:FuncId}{cs:List C}{v:Value}(e:TypeId)(hr:RepU ρ w Z (.clo f cs) v):
  Rel M Z w0 (BW ρ i (BB w 1 1 false)) (st.new i (.fbox f cs)) a (w.alloc (.cells #[v] e)):=by
 refine h.new (Ext.alloc w _) i (Ln w _ _ _) (fun _ j hj=>⟨?_,?_⟩) (by simp[BB,maxLen]) ?_
 ·simp_all[BB,Own.at]
 ·simp_all[BB,Own.at,Nat.zero_add,NG]
 ·exact⟨rfl,rfl,⟨rfl,rfl⟩,v,by simp[BB,Own.at],hr⟩
theorem ZB(h:Rel M Z w0 ρ st a w)(hT:A5 P T){o:Oper}(hd: ∀d,o.dst=some d→d<a.tmps.size)(t:TypeId)(x:Operand)(ho:o.op= .box t x){st':St}
  (hs:((T t).bind fun i=>(st.evU x).bind fun u=>if u.cells.length=i.size then mk o.dst st (Fq u) (fun d=> .ptr d 0) else none)=some st'):StepOk P M Z w0 o st' a w:=by
 simp only[jzd]at hs;obtain⟨i,hi,u,hu,hs⟩:=hs;split at hs
 case isFalse=>cases hs
 case isTrue hl=>
  obtain⟨k,hk,rfl⟩:=F8 hs
  obtain⟨info,d,ht⟩:=Be (hT t i hi)
  have hur:=h.evU hu;cases u with
  |clo f cs=>
   have hb:=h.newFbox k t hur;refine .at hk hd (x:= .pointer (some ⟨w.heap.size,0,none⟩)) ?_ hb ⟨_,Cd _ _ _,rfl,by simp[BB]⟩
   obtain⟨vs,hv,_⟩:=hur
   simp[execOp,ho,Instr.box,newVar,newRow,hv,Value.cells]
  |c x=>
   have hb:=h.newBox k t hur.cells (by rw[hl];exact J4 ht.small)
   refine .at hk hd (x:= .pointer (some ⟨w.heap.size,0,none⟩)) ?_ hb ⟨_,Cd _ _ _,rfl,by simp[BB]⟩
   simp[execOp,ho,Instr.box,newVar,newRow]
  |agg cs=>
   have hb:=h.newBox k t hur.cells (by rw[hl];exact J4 ht.small)
   refine .at hk hd (x:= .pointer (some ⟨w.heap.size,0,none⟩)) ?_ hb ⟨_,Cd _ _ _,rfl,by simp[BB]⟩
   simp[execOp,ho,Instr.box,newVar,newRow]
theorem Df{α:Type}(off:Nat)(new l:List α)(h:off+new.length≤l.length)(k:Nat):
  (splice off new l)[k]? =if off≤k∧k<off+new.length then new[k - off]? else l[k]? :=by
 unfold splice;rw[List.append_assoc]
 grind
theorem F1{α:Type}(off:Nat)(new l:List α)(h:off+new.length≤l.length):(splice off new l).length=l.length:=by
 grind[splice]
theorem RepL.splice{α:Type}{r:α→Value→Prop}{off:Nat}{new l:List α}{vn vl:List Value}(hn:RepL r new vn)(hl:RepL r l vl)(h:off+new.length≤l.length):
  RepL r (splice off new l) (splice off vn vl):=by
 have h':off+vn.length≤vl.length:=by rw[←hn.1,←hl.1];exact h
 refine⟨by rw[F1 _ _ _ h,F1 _ _ _ h',hl.1],fun j x v hx hv=> ?_⟩
 rw[Df _ _ _ h]at hx
 rw[Df _ _ _ h',←hn.1]at hv
 split at hx
 ·rw[if_pos ‹_›]at hv;exact hn.2 _ _ _ hx hv
 ·rw[if_neg ‹_›]at hv;exact hl.2 _ _ _ hx hv
theorem jfE(off:Nat)(v cells:Array Value)(h:off+v.size≤cells.size):
  (v.zipIdx.foldl (fun cs (x:Value×Nat)=>cs.setIfInBounds (off+x.2) x.1) cells).toList=splice off v.toList cells.toList:=by
 obtain⟨g1,g2⟩:=Great.foldl_set off v.toList 0 cells
 have e:v.zipIdx.foldl (fun cs (x:Value×Nat)=>cs.setIfInBounds (off+x.2) x.1) cells=(v.toList.zipIdx 0).foldl (fun cs (x:Value×Nat)=>cs.setIfInBounds (off+x.2) x.1) cells:=by
  rw[←Array.foldl_toList,Array.toList_zipIdx]
 rw[e]
 apply List.ext_getElem?
 intro k;rw[Df _ _ _ (by simpa using h),Array.getElem?_toList,g2 k]
 grind
theorem KF{r:C→Value→Prop}{place:Nat→Option (Nat×Nat)}: ∀{parts:List (Nat×List C)} {vps:List (Nat×Value)} {cs cs':List C} {vs:Array Value},
  RepL r cs vs.toList→parts.length=vps.length→(∀(j:Nat) (p:Nat×List C) (q:Nat×Value),parts[j]? =some p→vps[j]? =some q→p.1=q.1∧RepL r p.2 q.2.cells.toList)→DE place cs parts=some cs'→
  ∃vs',Instr.fill place vs vps=some vs'∧RepL r cs' vs'.toList
 |[],[],cs,cs',vs,h,_,_,hf=>by cases hf;exact⟨vs,rfl,h⟩
 |[],_::_,_,_,_,_,hl,_,_=>by simp at hl
 |_::_,[],_,_,_,_,hl,_,_=>by simp at hl
 |(i,c)::ps,(i',v)::vps,cs,cs',vs,h,hl,hp,hf=>by
  obtain⟨h1,h2⟩:=hp 0 _ _ rfl rfl
  simp at h1 h2;subst h1;simp only[DE,jzd]at hf;obtain⟨p,hpl,hf⟩:=hf;split at hf
  case isFalse=>cases hf
  case isTrue hc=>
   have hsz:v.cells.size=c.length:=by have:=h2.1;simpa using this.symm
   have hcs:cs.length=vs.size:=by have:=h.1;simpa using this
   have hfit:p.1+v.cells.size≤vs.size:=by omega
   obtain⟨vs',hv',hr'⟩:=KF (vps:=vps) (vs:=v.cells.zipIdx.foldl (fun cs (x:Value×Nat)=>cs.setIfInBounds (p.1+x.2) x.1) vs)
    (by rw[jfE _ _ _ hfit];exact h2.splice h (by omega)) (by simpa using hl) (fun j q q' hq hq'=>hp (j+1) q q' (by simpa using hq) (by simpa using hq')) hf
   refine⟨vs',?_,hr'⟩
   unfold Instr.fill;rw[hpl];simp only;rw[if_neg (by simp;omega)]
   exact hv'
theorem Ns(h:Rel M Z w0 ρ st a w): ∀{ps:List (Nat×Operand)} {l:List (Nat×List C)},st.evUs ps=some l→
  l.length=(ps.map fun p=>(p.1,a.eval p.2)).length∧ ∀(j:Nat) (p:Nat×List C) (q:Nat×Value),l[j]? =some p→(ps.map fun p=>(p.1,a.eval p.2))[j]? =some q→p.1=q.1∧RepL (RepC ρ w Z) p.2 q.2.cells.toList
 |[],l,hl=>by cases hl;simp
 |(i,x)::r,l,hl=>by
  simp only[St.evUs,jzd,jze]at hl;obtain⟨u,hu,l',hl',rfl⟩:=hl;obtain⟨h1,h2⟩:=Ns h hl';refine⟨by simpa using h1,fun j p q hp hq=> ?_⟩
  cases j with
  |zero=>simp at hp hq;subst hp;subst hq;exact⟨rfl,(h.evU hu).cells⟩
  |succ j=>grind
theorem QX(a:Act)(ps:Array (Nat×Operand)):(ps.map fun x=>(x.1,a.eval x.2)).toList=ps.toList.map fun p=>(p.1,a.eval p.2):=by simp
theorem Tz(hT:A5 P T): ∀(fs:List (Nat×Nat)) (l:List Field),fs=l.map (fun f=>(f.offset,f.type))→ ∀ps:List (Nat×Nat),fs.mapM (fun p=>(T p.2).map fun j=>(p.1,j.size))=some ps→
  l.mapM (fun f=>(P.info? f.type).map fun i=>(f.offset,i.size))=some ps
 |_,[],hfs,ps,hp=>by grind
 |_,f::l,hfs,ps,hp=>by
  subst hfs;simp only[List.map_cons,List.mapM_cons,Option.bind_eq_bind,Option.pure_def,jzd,jze,Option.some.injEq]at hp;obtain⟨q,⟨j,hj,rfl⟩,r,hr,rfl⟩:=hp;obtain⟨info,d,ht⟩:=Be (hT _ _ hj);have ih:=Tz hT _ l rfl r hr;simp[List.mapM_cons,ht.inf,ih,ht.size]
theorem jb6(h:Rel M Z w0 ρ st a w)(hT:A5 P T){o:Oper}(hd: ∀d,o.dst=some d→d<a.tmps.size)(t:TypeId)(parts:Array (Nat×Operand))(ho:o.op= .build t parts){st':St}
  (hs:((T t).bind fun i=>(st.evUs parts.toList).bind fun l=>(build T i l).map fun u=>st.put o.dst (.u u))=some st'):StepOk P M Z w0 o st' a w:=by
 simp only[jzd,jze]at hs;obtain⟨i,hi,l,hl,u,hu,rfl⟩:=hs;obtain⟨info,d,ht⟩:=Be (hT t i hi);obtain⟨z,hz,hzc⟩:=ht.zero;obtain⟨hl1,hl2⟩:=Ns h hl;have hzr:RepL (RepC ρ w Z) i.zero z.cells.toList:=Ep hzc;have key: ∃vs,P.built t (parts.map fun(i,x)=>(i,a.eval x)).toList=some vs∧RepU ρ w Z u (.agg vs):=by
  unfold build at hu;have he:(parts.map fun(i,x)=>(i,a.eval x)).toList=parts.toList.map fun p=>(p.1,a.eval p.2):=QX a parts
  split at hu
  ·rename_i n e harr
   simp only[jzd,jze]at hu;obtain⟨j,hj,cs,hcs,rfl⟩:=hu;obtain⟨infe,de,hte⟩:=Be (hT e j hj);obtain⟨vs,hv,hr⟩:=KF hzr hl1 hl2 hcs;refine⟨vs,?_,vs.toList,by simp,hr⟩
   unfold Program.built;rw[ht.inf,ht.array harr];simp only[hz,hte.inf,hte.size,he];exact hv
  ·split at hu
   case isFalse=>cases hu
   case isTrue hagg=>
    simp only[jzd,jze]at hu;obtain⟨ps,hps,cs,hcs,rfl⟩:=hu;obtain⟨vs,hv,hr⟩:=KF hzr hl1 hl2 hcs;refine⟨vs,?_,vs.toList,by simp,hr⟩
    have hdd:=ht.desc;have harr:i.arr=none:=by assumption
    cases d<;>simp[Ct,harr,hagg]at hdd
    case struct fs=>
     have hpl:=Tz (P:=P) hT i.flds fs.toList hdd.2 ps hps;unfold Program.built;rw[ht.inf,ht.und];simp only[hz,hpl,he];have:(fun x=>(ps.toArray[x]? :Option (Nat×Nat)))=Kk ps:=by funext x;simp[Kk]
     rw[this]
     exact hv
 obtain⟨vs,hv,hr⟩:=key
 refine .val h hd (x:= .agg vs) ?_ hr
 grind[execOp,Sem.run_bind,run_build,Result.andThen_ok,Sem.run_pure]
theorem RepL.map_d{cs:List D}{vs:List Value}{ρ:AE}{w:World}{Z:Addr→Prop}(h:RepL (RepD w (Ar ρ Z)) cs vs):RepL (RepC ρ w Z) (cs.map .d) vs:=
 h.imp C.d fun _ _ _ hx=>hx
theorem Yc(w:World)(g o:Nat)(vs:List Value)(h: ∀(j:Nat) (v:Value),vs[j]? =some v→w.cell? ⟨g,o+j,none⟩=some v):(loadCells ⟨g,o,none⟩ vs.length).run P w= .ok vs.toArray w:=
 (by grind[run_loadCells_list,E2])
theorem Qr{t:TypeId}{i:TI}{info:TypeInfo}{d:TypeDesc}(ht:TyOk P t i info d)(ha:i.agg=true)(g o:Nat)(vs:List Value)(hl:vs.length=i.size)
  (h: ∀(j:Nat) (v:Value),vs[j]? =some v→w.cell? ⟨g,o+j,none⟩=some v):(loadVar t ⟨g,o,none⟩).run P w= .ok (.agg vs.toArray) w:=by
 have hc:=Yc (P:=P) w g o vs h;rw[hl]at hc;simp[loadVar,ht.isAgg,ha,ht.sizeOf,hc]
theorem MS{t:TypeId}{i:TI}{info:TypeInfo}{d:TypeDesc}(ht:TyOk P t i info d)(ha:i.agg=false)(g o:Nat)(v:Value)
  (h:w.cell? ⟨g,o,none⟩=some v):(loadVar t ⟨g,o,none⟩).run P w= .ok v w:=by
 simp[loadVar,ht.isAgg,ha,load,Sem.run,h]
def Blk.all:Blk→List C
 | .row _ cs _=>cs.map .d
 | .box cs=>cs
 | .fbox _ _=>[.bad]
 | .mp _=>[]
 | .gh _=>[]
theorem RepB.all{o:Own}{b:Blk}(hb:RepB ρ w Z o b){j:Nat}{c:C}(h:b.all[j]? =some c): ∃v,w.cell? (o.at j)=some v∧one v∧RepC ρ w Z c v:=by
 cases b with
 |row sz cs app=>
  obtain⟨_,_,_,_,h5⟩:=hb
  simp only[Blk.all,Bf,jze]at h;obtain⟨x,hx,rfl⟩:=h;obtain⟨v,hv,hd⟩:=h5 j x hx;exact⟨v,hv,hd.one,hd⟩
 |box cs=>
  obtain⟨_,_,_,h4⟩:=hb
  exact h4 j c h
 |fbox f cs=>
  obtain⟨_,_,_,v,hv,vs,rfl,_⟩:=hb
  cases j with
  |zero=>simp[Blk.all]at h;subst h;exact⟨_,hv,rfl,rfl⟩
  |succ j=>simp[Blk.all]at h
 |mp es=>simp[Blk.all]at h
 |gh es=>simp[Blk.all]at h
theorem jeH{b:Blk}{off k:Nat}{cs:List C}(h:b.rd off k=some cs):off+k≤b.all.length∧cs=AP off k b.all:=by
 cases b with
 |row sz l app=>
  grind[Blk.rd,Blk.all,AP,List.map_take,List.map_drop]
 |box l=>
  simp only[Blk.rd]at h;split at h<;>cases h;exact⟨by simpa [Blk.all],rfl⟩
 |fbox f l=>simp[Blk.rd]at h
 |mp es=>simp[Blk.rd]at h
 |gh es=>simp[Blk.rd]at h
theorem jkE{b:Blk}{off:Nat}{u:U}(h:b.ld off=some u):(∃c,u= .c c∧b.all[off]? =some c)∨(off=0∧ ∃f cs,u= .clo f cs∧b= .fbox f cs):=by
 cases b with
 |row sz l app=>simp only[Blk.ld,jze]at h;obtain⟨x,hx,rfl⟩:=h;exact .inl ⟨_,rfl,by simp[Blk.all,hx]⟩
 |box l=>simp only[Blk.ld,jze]at h;obtain⟨x,hx,rfl⟩:=h;exact .inl ⟨_,rfl,hx⟩
 |fbox f l=>
  simp only[Blk.ld]at h
  grind
 |mp es=>simp[Blk.ld]at h
 |gh es=>simp[Blk.ld]at h
theorem Iz{α:Type}{r:α→Value→Prop}: ∀(cs:List α) (f:Nat→Option Value),(∀(j:Nat) (x:α),cs[j]? =some x→ ∃v,f j=some v∧r x v)→
  ∃vs:List Value,RepL r cs vs∧ ∀(j:Nat) (v:Value),vs[j]? =some v→f j=some v
 |[],_,_=>⟨[],⟨rfl,(by simp)⟩,(by simp)⟩
 |c::r',f,h=>by
  obtain⟨v,hv,hr⟩:=h 0 c rfl
  obtain⟨vs,⟨h1,h2⟩,h3⟩:=Iz r' (fun j=>f (j+1)) (fun j x hx=>h (j+1) x (by simpa using hx))
  refine⟨v::vs,⟨by simp[h1],fun j x u hx hu=> ?_⟩,fun j u hu=> ?_⟩
  ·cases j with
   |zero=>simp at hx hu;subst hx;subst hu;exact hr
   |succ j=>exact h2 j x u (by simpa using hx) (by simpa using hu)
  ·cases j with
   |zero=>simp at hu;subst hu;exact hv
   |succ j=>exact h3 j u (by simpa using hu)
theorem Tr(h:Rel M Z w0 ρ st a w){t:TypeId}{i:TI}{info:TypeInfo}{d:TypeDesc}(ht:TyOk P t i info d){c:C}{x:Value}(hcr:RepC ρ w Z c x){u:U}(hu:st.load i c=some u):
  ∃ad v,x= .pointer (some ad)∧(loadVar t ad).run P w= .ok v w∧RepU ρ w Z u v:=by
 have fin: ∀(g q:Nat) (v:Value),x= .pointer (some ⟨g,q,none⟩)→(loadVar t ⟨g,q,none⟩).run P w= .ok v w→RepU ρ w Z u v→ ∃ad v,x= .pointer (some ad)∧(loadVar t ad).run P w= .ok v w∧RepU ρ w Z u v:=(by grind)
 cases c with
 |nl=>simp[St.load]at hu
 |bad=>simp[St.load]at hu
 |sl=>simp[St.load]at hu
 |mp=>simp[St.load]at hu
 |ptr b off=>
  simp only[St.load,jzd]at hu;obtain⟨k,hk,hu⟩:=hu;obtain⟨o',ho',hn',he⟩:=hcr;obtain⟨o2,ho2,hb⟩:=h.heap.rep b k hk;obtain rfl:o2=o':=(by grind)
  cases ha:i.agg with
  |true=>
   rw[ha]at hu
   simp only[if_true,jze]at hu;obtain⟨cs,hcs,rfl⟩:=hu;obtain⟨hlen,rfl⟩:=jeH hcs;obtain⟨vs,hvs,hcell⟩:=Iz (r:=RepC ρ w Z) (AP off i.size k.all) (fun j=>w.cell? (o2.at (off+j))) (fun j y hy=>by
    rw[getElem?_cut]at hy
    split at hy
    ·obtain⟨v,hv,_,hr⟩:=hb.all hy;grind
    ·cases hy)
   have hvl:vs.length=i.size:=by rw[←hvs.1];simp[AP];omega
   refine fin _ _ (.agg vs.toArray) he (Qr ht ha _ _ vs hvl fun j v hv=> ?_) ⟨vs,rfl,hvs⟩
   have:=hcell j v hv
   simpa [Own.at,Nat.add_assoc]using this
  |false=>
   rw[ha]at hu
   simp only[Bool.false_eq_true,if_false]at hu;rcases jkE hu with⟨cc,rfl,hcc⟩|⟨rfl,f,cs,rfl,rfl⟩
   ·obtain⟨v,hv,_,hr⟩:=hb.all hcc
    exact fin _ _ v he (MS ht ha _ _ v hv) hr
   ·obtain⟨_,_,_,v,hv,hr⟩:=hb
    grind[MS]
 |d y=>
  cases y with
  |ref cs=>
   simp only[St.load]at hu;cases hcr with
   |ref _ ad vs hsp h1 h2 h3=>
    have hx:Value.pointer (some ad)= .pointer (some ad):=rfl
    cases ha:i.agg with
    |true=>
     rw[ha]at hu
     simp only[if_true]at hu;split at hu
     case isFalse=>cases hu
     case isTrue hlen=>
      cases hu;by_cases h0:i.size=0
      ·have hc0:cs.take i.size=[]:=by simp[h0]
       rw[hc0]
       obtain⟨blk,off,spot⟩:=ad
       have hr:(loadVar t ⟨blk,off,spot⟩).run P w= .ok (.agg #[]) w:=by
        simp[loadVar,ht.isAgg,ha,ht.sizeOf,h0,loadCells,loadCellsFrom]
       exact⟨_,.agg #[],rfl,hr,⟨[],rfl,rfl,fun j x v hx=>by simp at hx⟩⟩
      ·have hne:cs≠[]:=fun e=>by subst e;simp at hlen;omega
       have hsp':=hsp hne;obtain⟨blk,off,spot⟩:=ad;simp at hsp';subst hsp';obtain⟨us,hus,hcell⟩:=Iz (r:=RepD w (Ar ρ Z)) (cs.take i.size) (fun j=>w.cell? ⟨blk,off+j,none⟩) (fun j y hy=>by
        rw[List.getElem?_take]at hy
        split at hy
        ·exact⟨_,h1 j y hy,h3 j y hy⟩
        ·cases hy)
       have hul:us.length=i.size:=by rw[←hus.1];simp;omega
       exact fin _ _ (.agg us.toArray) hx (Qr ht ha _ _ us hul hcell) ⟨us,rfl,hus.map_d⟩
    |false=>
     rw[ha]at hu
     simp only[Bool.false_eq_true,if_false,jze]at hu;obtain⟨y,hy,rfl⟩:=hu;have hne:cs≠[]:=(by grind)
     have hsp':=hsp hne;obtain⟨blk,off,spot⟩:=ad;simp at hsp';subst hsp';exact fin _ _ _ hx (by grind[MS]) (h3 0 y hy)
  |_=>simp[St.load]at hu
theorem XG(h:Rel M Z w0 ρ st a w)(hT:A5 P T){o:Oper}(hd: ∀d,o.dst=some d→d<a.tmps.size)(t:TypeId)(x:Operand)(ho:o.op= .load t x){st':St}
  (hs:((T t).bind fun i=>(st.evC x).bind fun c=>(st.load i c).map fun u=>st.put o.dst (.u u))=some st'):StepOk P M Z w0 o st' a w:=by
 simp only[jzd,jze]at hs;obtain⟨i,hi,c,hc,u,hu,rfl⟩:=hs;obtain⟨info,d,ht⟩:=Be (hT t i hi);obtain⟨ad,v,he,hr,hv⟩:=Tr (P:=P) h ht (h.evC hc) hu;exact .val h hd (x:=v) (by simp_all[execOp,Instr.loadAt,Instr.sureAddr]) hv
end
end Go.Va
namespace Go.Va
open Go.RowKit
variable [Gv]
section
variable {P:Program} {T:AH} {M Z:Addr→Prop} {w0 w:World} {ρ:AE} {st:St} {a:Act}
theorem RepL.ones{cs:List C}{vs:List Value}(h:RepL (RepC ρ w Z) cs vs): ∀v∈vs,v.oneCell'=true:=by
 intro v hv;obtain⟨j,hj,rfl⟩:=List.getElem_of_mem hv;have hc:j<cs.length:=by rw[h.1];exact hj
 exact RepC.one (h.2 j _ _ (AD hc) (by simp))
theorem Vj{t:TypeId}{i:TI}{info:TypeInfo}{d:TypeDesc}(ht:TyOk P t i info d){o:Own}{off:Nat}{v:Value}(hl:v.cells.size=i.size)
  (hc: ∀j,j<v.cells.size→(w.cell? (o.at (off+j))).isSome=true∧w.frozen? (o.at (off+j))=false) (h1: ∀u∈v.cells.toList,u.oneCell'=true):
  (storeVar t (o.at off) v).run P w= .ok () (w.setCells o.g (o.o+off) v.cells.toList):=by
 have hs:=run_storeCells_cells (P:=P) o.g (o.o+off) v.cells.toList 0 w (fun j hj=>by
   have:=(hc j (by simpa using hj)).1
   simpa [Own.at,Nat.add_assoc]using this) (fun j hj=>by
   have:=(hc j (by simpa using hj)).2
   simpa [Own.at,Nat.add_assoc]using this) h1
 simp only[Nat.add_zero]at hs;simp[storeVar,ht.sizeOf,hl,Own.at,hs]
theorem GI(h:Rel M Z w0 ρ st a w){i:Nat}{o:Own}(hi:ρ i=some o)(hn:o.gone=false){off:Nat}{vs:List Value}(hfit:off+vs.length≤o.room*o.sz)(j:Nat):
  (w.setCells o.g (o.o+off) vs).cell? (o.at j)=if off≤j∧j<off+vs.length then vs[j - off]? else w.cell? (o.at j):=by
 by_cases hj:off≤j∧j<off+vs.length
 ·rw[if_pos hj]
  have:=World.cell?_setCells_in o.g vs (o.o+off) w (fun q hq=>by
   obtain⟨⟨u,hu⟩,_⟩:=h.heap.owns.cells i o hi hn (off+q) (by omega)
   grind) (j - off) (by omega)
  grind
 ·rw[if_neg hj]
  grind[World.cell?_setCells_out]
theorem Ro{b off:Nat}{u:U}{st s:St}{k:Blk}(h:st.storeU b off u k=some s):(∃f cs l0,u= .clo f cs∧k= .box [l0]∧off=0∧s=st.blk b (.fbox f cs))∨st.storeB b off u.cells k=some s:=by
 unfold St.storeU at h;split at h
 ·split at h
  ·grind
  ·exact .inr h
 ·exact .inr h
 ·exact .inr h
theorem jae(h:Rel M Z w0 ρ st a w)(hT:A5 P T){o:Oper}(hd: ∀d,o.dst=some d→d<a.tmps.size)(t:TypeId)(x y:Operand)(ho:o.op= .store t x y){st':St}
  (hs:((T t).bind fun i=>(st.evC x).bind fun c=>(st.evU y).bind fun u=>(st.store i c u).map fun s=>s.put o.dst (.tup []))=some st'):StepOk P M Z w0 o st' a w:=by
 simp only[jzd,jze]at hs;obtain⟨i,hi,c,hc,u,hu,s,hs,rfl⟩:=hs;obtain⟨info,d,ht⟩:=Be (hT t i hi);have hur:=(h.evU hu).cells;unfold St.store at hs;split at hs
 case isFalse=>cases hs
 case isTrue hlen=>
  split at hs
  case h_2=>cases hs
  case h_1 b off=>
   rw[jzd]at hs
   obtain⟨blk,hblk,hs⟩:=hs
   obtain⟨ow,how,hn,he⟩:=h.evC hc
   obtain⟨o2,ho2,hb⟩:=h.heap.rep b blk hblk
   obtain rfl:o2=ow:=Bi (ho2.symm.trans how);have hn:=hb.thaw hn;have hvl:(a.eval y).cells.size=i.size:=by have:=hur.1;simp at this;omega
   have fin: ∀(ρ':AE) (s':St),off+(a.eval y).cells.toList.length≤o2.room*o2.sz→
     Rel M Z w0 ρ' s' a (w.setCells o2.g (o2.o+off) (a.eval y).cells.toList)→StepOk P M Z w0 o (s'.put o.dst (.tup [])) a w:=fun ρ' s' hfit hr=>by
    have hrun:=Vj (P:=P) (w:=w) ht (o:=o2) (off:=off) (v:=a.eval y) hvl (fun j hj=>by
     obtain⟨⟨q,hq⟩,hf⟩:=h.heap.owns.cells b o2 how hn (off+j) (by simp at hfit;omega)
     exact⟨by rw[hq];rfl,hf⟩) hur.ones
    refine⟨.skip,undef,_,ρ',?_,.inr ⟨rfl,rfl⟩,hr.put hd ⟨[],rfl,rfl,fun j x v hx=>by simp at hx⟩⟩
    simp[execOp,ho,Instr.storeAt,Instr.sureAddr,he,hrun]
   rcases Ro hs with⟨f,cs,l0,rfl,rfl,rfl,rfl⟩|hs
   ·obtain⟨hb1,hb2,hb3,hb4⟩:=hb
    obtain⟨vs,hvs,hl⟩:=h.evU hu
    have hcl:(a.eval y).cells.toList=[a.eval y]:=by rw[hvs];rfl
    have hfit':0+(a.eval y).cells.toList.length≤o2.room*o2.sz:=by rw[hcl,hb1,hb2];simp
    refine fin ρ _ hfit' (h.write how hn hfit' fun hk=>⟨hb1,hb2,hb3,a.eval y,?_,vs,hvs,hl.1,fun j x v hx hv=>(hl.2 j x v hx hv).keep hk fun _ _=>rfl⟩)
    rw[GI h how hn hfit',hcl]
    simp
   cases blk with
   |fbox f cs=>simp[St.storeB]at hs
   |mp es=>simp[St.storeB]at hs
   |gh es=>simp[St.storeB]at hs
   |box cs=>
    simp only[St.storeB]at hs;split at hs
    case isFalse=>cases hs
    case isTrue hfit=>
     cases hs;obtain⟨hb1,hb2,hb3,hb4⟩:=hb
     have hl2:(a.eval y).cells.toList.length=u.cells.length:=hur.1.symm
     have hfit':off+(a.eval y).cells.toList.length≤o2.room*o2.sz:=by rw[hl2,hb1,hb2];omega
     refine fin ρ _ hfit' (h.write how hn hfit' fun hk=>⟨hb1,by rw[hb2,F1 _ _ _ hfit],hb3,fun j cc hcc=> ?_⟩)
     rw[GI h how hn hfit',hl2]
     rw[Df _ _ _ hfit]at hcc
     split at hcc
     ·rename_i hj
      rw[if_pos hj]
      have hj':j - off<(a.eval y).cells.toList.length:=by omega
      refine⟨_,AD hj',hur.ones _ (AZ hj'),(hur.2 _ _ _ hcc (AD hj')).keep hk fun _ _=>rfl⟩
     ·rename_i hj
      rw[if_neg hj]
      obtain⟨v,hv,h1,hr⟩:=hb4 j cc hcc
      exact⟨v,hv,h1,hr.keep hk fun _ _=>rfl⟩
   |row sz cs app=>
    simp only[St.storeB,jzd]at hs;obtain⟨p,hp,hs⟩:=hs;obtain⟨ds,s1⟩:=p;obtain⟨hrel,hds⟩:=h.shut hp hur;split at hs
    case h_2=>cases hs
    case h_1 sz' cs' app' hlk=>
     split at hs
     case isFalse=>cases hs
     case isTrue hfit=>
      cases hs;obtain⟨o3,ho3,hb'⟩:=hrel.heap.rep b _ hlk
      have ho3':ρ b=some o3:=(Eu ho3).2
      obtain rfl:o3=o2:=Bi (ho3'.symm.trans how);obtain⟨hb1,hb2,hb3,hb4,hb5⟩:=hb';have hl2:(a.eval y).cells.toList.length=ds.length:=hds.1.symm;have hfit':off+(a.eval y).cells.toList.length≤o3.room*o3.sz:=by rw[hl2,hb1];simp only at hfit;omega
      refine fin _ _ hfit' (hrel.write ho3 hn hfit' fun hk=>⟨hb1,hb2,by rw[F1 _ _ _ hfit];exact hb3,hb4,fun j x hx=> ?_⟩)
      rw[GI hrel ho3 hn hfit',hl2]
      rw[Df _ _ _ hfit]at hx
      split at hx
      ·rename_i hj
       rw[if_pos hj]
       have hj':j - off<(a.eval y).cells.toList.length:=by simp only at hj;omega
       exact⟨_,AD hj',(hds.2 _ _ _ hx (AD hj')).keep hk⟩
      ·rename_i hj
       rw[if_neg hj]
       obtain⟨v,hv,hr⟩:=hb5 j x hx
       exact⟨v,hv,hr.keep hk⟩
theorem Si{α:Type}(n:Nat)(z:List α)(j:Nat)(hj:j<n*z.length):(rep n z)[j]? =z[j%z.length]? :=by
 induction n generalizing j with
 |zero=>simp at hj
 |succ n ih=>
  grind[rep,List.getElem?_append_left,Nat.mod_eq_of_lt,List.getElem?_append_right,Nat.succ_mul,Nat.mod_eq_sub_mod]
theorem Hp{α:Type}(n:Nat)(z:List α):(rep n z).length=n*z.length:=by
 induction n with
 |zero=>simp[rep]
 |succ n ih=>grind[rep,Nat.succ_mul]
theorem Rp{α:Type}{r:α→Value→Prop}{cs:List α}{vs:Array Value}(h:RepL r cs vs.toList)(n:Nat):RepL r (rep n cs) ((Array.range (n*vs.size)).map (vs[· %vs.size]!)).toList:=by
 have hl:cs.length=vs.size:=by simpa using h.1
 refine⟨by simp[Hp,hl],fun j x v hx hv=> ?_⟩
 have hj:j<n*vs.size:=by grind
 have hz:0<vs.size:=by
  grind
 rw[Si n cs j (by rw[hl];exact hj),hl]at hx
 have hm:j%vs.size<vs.size:=Nat.mod_lt _ hz;have hv':v=vs[j%vs.size]:=by
  grind
 subst hv';exact h.2 (j%vs.size) x _ hx (by simp[hm])
theorem Uv{place:Nat→Option (Nat×Nat)}: ∀{parts:List (Nat×List C)} {cs cs':List C},DE place cs parts=some cs'→cs'.length=cs.length
 |[],_,_,h=>by cases h;rfl
 |(i,v)::r,cs,cs',h=>by
  simp only[DE,jzd]at h;obtain⟨p,_,h⟩:=h;split at h
  case isFalse=>cases h
  case isTrue hc=>rw[Uv h,F1 _ _ _ (by omega)]
theorem KM(ρ:AE)(w w':World)(Z:Addr→Prop)(k sz room n:Nat)(hn:n≤room)(hm:room≤maxLen):
  RepC (BW ρ k (BB w sz room true)) w' Z (.sl k 0 n) (.slice (some ⟨w.heap.size,0,none⟩) n room):=
 ⟨_,Cd _ _ _,by grind[BB],.inr ⟨rfl,_,_,rfl,hn,hm,.inr (by simp[BB,Own.at]),fun _=>by simp[BB]⟩⟩
theorem XX(h:Rel M Z w0 ρ st a w)(hT:A5 P T){o:Oper}(hd: ∀d,o.dst=some d→d<a.tmps.size)(t:TypeId)(len:Nat)(parts:Array (Nat×Operand))(ho:o.op= .buildSlice t len parts){st':St}
  (hs:((T t).bind fun i=>i.sl.bind fun e=>(T e).bind fun j=>(st.evUs parts.toList).bind (FG j len o.dst st))=some st'):StepOk P M Z w0 o st' a w:=by
 simp only[jzd]at hs;obtain⟨i,hi,e,he,j,hj,l,hl,hs⟩:=hs;unfold FG at hs;split at hs
 case isFalse=>cases hs
 case isTrue hsmall=>
  simp only[jzd]at hs;obtain⟨cs,hcs,hs⟩:=hs;obtain⟨info,d,ht⟩:=Be (hT t i hi);obtain⟨infe,de,hte⟩:=Be (hT e j hj);obtain⟨z,hz,hzc⟩:=hte.zero;obtain⟨hl1,hl2⟩:=Ns h hl;have hzr:RepL (RepC ρ w Z) j.zero z.cells.toList:=Ep hzc;have hzs:z.cells.size=j.size:=by have:=hzr.1;simp at this;rw[←this,hte.zlen]
  have hzero:=Rp hzr len;rw[hzs]at hzero;obtain⟨vs,hv,hr⟩:=KF hzero hl1 hl2 hcs;have hcl:vs.toList.length=len*j.size:=by
   rw[←hr.1,Uv hcs,Hp,hte.zlen]
  have hroom:len≤maxLen:=J4 hsmall.2;have hrunE:(execOp a.eval o).run P w= .ok (.value (.slice (some ⟨w.heap.size,0,none⟩) len len)) (w.alloc (.cells vs e)):=by
   have hev:(parts.map fun(i,x)=>(i,a.eval x)).toList=parts.toList.map fun p=>(p.1,a.eval p.2):=QX a parts
   by_cases h0:len*j.size=0
   ·have hf:Instr.fill (fun i=>some (i*j.size,j.size)) #[] (parts.map fun(i,x)=>(i,a.eval x)).toList=some vs:=by
     rw[hev,←hv]
     simp[h0,Array.range_zero',F3]
     rfl
    rw[hev]at hf
    simp[execOp,ho,Instr.buildSlice,run_underlying (ht.slice he),hte.sizeOf,h0,newRow,hf,Array.range_zero']
   ·have hf:Instr.fill (fun i=>some (i*infe.size,infe.size)) ((Array.range (len*infe.size)).map (z.cells[· %z.cells.size]!)) (parts.map fun(i,x)=>(i,a.eval x)).toList=some vs:=by
     rw[hev,←hv,hte.size,hzs]
     rfl
    have:=run_buildSlice (P:=P) w t e len (parts.map fun(i,x)=>(i,a.eval x)) vs infe z (ht.slice he) hte.inf hz (by rw[hte.size];omega) (by rw[hte.size];exact h0) hf
    simp only[execOp,ho,Sem.run_bind,this,Result.andThen_ok,Sem.run_pure]
  split at hs
  ·rename_i hbox
   obtain⟨k,hk,rfl⟩:=F8 hs
   have hcsl:cs.length=len:=by have:=hr.1;rw[hcl,hbox.1]at this;omega
   have hrow:=h.newBox k e hr (by rw[hcsl];exact hroom)
   rw[Array.toArray_toList]at hrow
   refine .at hk hd (x:= .slice (some ⟨w.heap.size,0,none⟩) len len) hrunE hrow ⟨_,Cd _ _ _,by simp[BB,hcsl],.inr ⟨rfl,_,_,rfl,AO _,hroom,.inr (by simp[BB,Own.at]),fun hh=>by simp[BB]at hh⟩⟩
  ·rw[jzd]at hs
   obtain⟨p,hp,hs⟩:=hs
   obtain⟨k,hk,rfl⟩:=F8 hs
   obtain⟨ds,s1⟩:=p
   obtain⟨hrel,hds⟩:=h.shut hp hr
   have hrow:=hrel.newRow (Ext.refl w) rfl k [] e true hds (by simpa using hcl) hroom
   simp only[List.append_nil,Array.toArray_toList]at hrow;refine .at hk hd (x:= .slice (some ⟨w.heap.size,0,none⟩) len len) hrunE hrow (KM _ w (w.alloc (.cells vs e)) Z k _ _ _ (AO _) hroom)
theorem jbg(h:Rel M Z w0 ρ st a w)(hT:A5 P T){o:Oper}(hd: ∀d,o.dst=some d→d<a.tmps.size)(t:TypeId)(x y:Operand)(ho:o.op= .makeSlice t x y){st':St}
  (hs:((T t).bind fun i=>i.sl.bind fun e=>(T e).bind fun j=>(st.evI x).bind fun l=>(st.evI y).bind fun c=>FC j o.dst st l.2 c.2)=some st'):StepOk P M Z w0 o st' a w:=by
 simp only[jzd]at hs;obtain⟨i,hi,e,he,j,hj,⟨kl,l⟩,hl,⟨kc,c⟩,hc,hs⟩:=hs;unfold FC at hs;split at hs
 case isFalse=>cases hs
 case isTrue hcond=>
  obtain⟨h0,hlc,hby,hbig⟩:=hcond
  unfold CP at hby hbig;simp only at h0 hlc hby hbig;rw[jzd]at hs;obtain⟨ds,hds,hs⟩:=hs;obtain⟨k,hk,rfl⟩:=F8 hs;obtain⟨info,d,ht⟩:=Be (hT t i hi);obtain⟨infe,de,hte⟩:=Be (hT e j hj);obtain⟨z,hz,hzc⟩:=hte.zero;have hzr:RepL (RepC ρ w Z) j.zero z.cells.toList:=Ep hzc;have hzs:z.cells.size=j.size:=by have:=hzr.1;simp at this;rw[←this,hte.zlen]
  obtain⟨hm1,hm2⟩:=Dl hds
  have hzd: ∀(ci:C) (v:Value) (x:D),HC ci v=true→st.cD ci=some x→RepD w (Ar ρ Z) x v:=by
   intro ci v x hz hx;unfold HC at hz;split at hz<;>simp at hz
   ·obtain⟨rfl,rfl⟩:=hz;simp[St.cD,toD]at hx;subst hx;exact .int _ _
   ·subst hz;simp[St.cD,toD]at hx;subst hx;exact .bool _
   ·obtain⟨rfl,rfl⟩:=hz;simp[St.cD,toD]at hx;subst hx;exact .str _
   ·simp[St.cD,toD]at hx;subst hx;exact .snil
   ·simp[St.cD,toD]at hx;subst hx;exact .nilPtr
   ·simp[St.cD,toD]at hx;subst hx;exact .nilFn
   ·simp[St.cD,toD]at hx;subst hx;exact .lit _ rfl
   ·simp[St.cD,toD]at hx;subst hx;exact .lit _ rfl
  have zc: ∀{cs:List C} {vs:List Value},E5 cs vs=true→ ∀(q:Nat) (ci:C) (v:Value),cs[q]? =some ci→vs[q]? =some v→HC ci v=true:=by
   intro cs
   induction cs with
   |nil=>intro vs _ q ci v hq;simp at hq
   |cons c r ih=>
    intro vs hz q ci v hq hv;cases vs with
    |nil=>simp at hv
    |cons v0 s=>
     simp only[E5,AR]at hz;cases q with
     |zero=>simp at hq hv;subst hq;subst hv;exact hz.1
     |succ q=>exact ih hz.2 q ci v (by simpa using hq) (by simpa using hv)
  have hdz:RepL (RepD w (Ar ρ Z)) ds z.cells.toList:=by
   refine⟨hm1.trans hzr.1,fun q x v hx hv=> ?_⟩
   have hq:q<j.zero.length:=by rw[←hm1];exact(jzg.1 hx).1
   obtain⟨y',hy',hf⟩:=hm2 q _ (AD hq)
   rw[hx]at hy'
   cases hy'
   exact hzd _ v _ (zc hzc q _ v (AD hq) hv) hf
  have hrepn: ∀n:Nat,RepL (RepD w (Ar ρ Z)) (rep n ds) (madeCells z.cells (n*j.size)).toList:=by
   intro n;have hdl:ds.length=j.size:=by rw[hm1,hte.zlen]
   refine⟨by simp[Hp,hdl,size_madeCells],fun q x v hx hv=> ?_⟩
   have hq:q<n*j.size:=by rw[←hdl,←Hp];exact(jzg.1 hx).1
   have hpos:0<j.size:=by
    rcases Nat.eq_zero_or_pos j.size with h0|h0
    ·rw[h0]at hq;omega
    ·exact h0
   have hmod:q%j.size<j.size:=Nat.mod_lt _ hpos;rw[Si n ds q (by rw[hdl];exact hq),hdl]at hx
   have hv':v=z.cells[q%j.size]'(by rw[hzs];exact hmod):=by
    simp[madeCells,hq,hzs]at hv
    rw[←hv]
    rw[getElem!_pos z.cells (q%j.size) (by rw[hzs];exact hmod)]
   subst hv';exact hdz.2 (q%j.size) x _ hx (by simp[hzs,hmod])
  have hrun:=run_make (P:=P) w t e infe z (ht.slice he) hte.inf hz kl kc l c h0 hlc (by rw[hte.bytes];rw[Int.mul_comm];omega) (by omega)
  rw[hte.size]at hrun
  have hsplit:(madeCells z.cells (c.toNat*j.size))=((madeCells z.cells (l.toNat*j.size)).toList++((madeCells z.cells (c.toNat*j.size)).toList.drop (l.toNat*j.size))).toArray:=by
   apply Array.ext'
   simp only[]
   apply List.ext_getElem?
   intro q;have hle:l.toNat*j.size≤c.toNat*j.size:=BC _ (by omega)
   by_cases hq:q<l.toNat*j.size
   ·rw[List.getElem?_append_left (by simpa [size_madeCells]using hq)]
    simp[madeCells,hq,show q<c.toNat*j.size by omega]
   ·rw[List.getElem?_append_right (by simpa [size_madeCells]using hq),List.getElem?_drop]
    congr 1
    simp[size_madeCells]
    omega
  have hx1:Ext w w:=Ext.refl w;have hroom:c.toNat≤maxLen:=by unfold maxLen;omega
  have hrow:=h.newRow hx1 rfl k (sz:=j.size) (room:=c.toNat) ((madeCells z.cells (c.toNat*j.size)).toList.drop (l.toNat*j.size)) e true (hrepn l.toNat) (by
   simp[size_madeCells]
   have hle:l.toNat*j.size≤c.toNat*j.size:=BC _ (by omega)
   omega) hroom
  rw[←hsplit]at hrow
  refine .at hk hd (x:= .slice (some ⟨w.heap.size,0,none⟩) l.toNat c.toNat) ?_ hrow (KM _ w (w.alloc (.cells (madeCells z.cells (c.toNat*j.size)) e)) Z k _ _ _ (by omega) hroom)
  have e1:=h.evI hl;have e2:=h.evI hc;simp only at e1 e2;simp only[execOp,ho,e1,e2,Sem.run_bind,hrun,Result.andThen_ok,Sem.run_pure]
end
end Go.Va
namespace Go.Va
open Go.RowKit
variable [Gv]
section
variable {P:Program} {T:AH} {M Z:Addr→Prop} {w0 w:World} {ρ:AE} {st:St} {a:Act}
theorem RepL.append{α:Type}{r:α→Value→Prop}{xs ys:List α}{vs us:List Value}(h:RepL r xs vs)(k:RepL r ys us):RepL r (xs++ys) (vs++us):=by
 refine⟨by simp[h.1,k.1],fun j x v hx hv=> ?_⟩
 by_cases hj:j<xs.length
 ·rw[List.getElem?_append_left hj]at hx
  rw[List.getElem?_append_left (by rw[←h.1];exact hj)]at hv
  exact h.2 j x v hx hv
 ·rw[List.getElem?_append_right (by omega)]at hx
  rw[List.getElem?_append_right (by rw[←h.1];omega),←h.1]at hv
  exact k.2 _ x v hx hv
theorem RepL.keepD{Z':Addr→Prop}{w':World}{xs:List D}{vs:List Value}(h:RepL (RepD w Z) xs vs)(hk:Keep w w' Z Z'):RepL (RepD w' Z') xs vs:=
 ⟨h.1,fun j x v hx hv=>(h.2 j x v hx hv).keep hk⟩
theorem Rel.congr{s s':St}(h:Rel M Z w0 ρ s a w)(h1: ∀k,lk k s'.t=lk k s.t)(h2: ∀k,lk k s'.h=lk k s.h):Rel M Z w0 ρ s' a w where
 fr:=h.fr
 heap:=⟨h.heap.owns,fun i b hb=>h.heap.rep i b (by grind)⟩
 mine:=h.mine
 out:=h.out
 mz:=h.mz
 tmps:=fun t v hv=>h.tmps t v (by grind)
 defers:=h.defers
 mps:=h.mps
theorem Rel.move(h:Rel M Z w0 ρ st a w){i d:Nat}{o:Own}(hi:ρ i=some o){sz:Nat}{cs:List D}{app:Bool}(hb:lk i st.h=some (.row sz cs app)):
  Rel M Z w0 (BW (Cb ρ i) d o) ((st.drop i).new d (.row sz cs app)) a w:=by
 have hsub: ∀j o',BW (Cb ρ i) d o j=some o'→(j=d∧o'=o)∨(j≠d∧ ∃o1,ρ j=some o1∧((j=i∧o'=o1.dead)∨(j≠i∧o'=o1))):=fun j o' hj=>by
  by_cases e:j=d
  ·subst e;rw[Cd]at hj;grind
  grind[Gn,IH]
 have hsubH: ∀j o' ad,BW (Cb ρ i) d o j=some o'→o'.has ad→(j=d∧o'=o)∨(j≠d∧j≠i∧ρ j=some o'):=fun j o' ad hj hh=>by
  rcases hsub j o' hj with h1|⟨h1,o1,h2,⟨_,rfl⟩|⟨h3,rfl⟩⟩
  ·exact .inl h1
  ·exact absurd hh (o1.dead_has ad)
  grind
 have hout: ∀ad,Ar (BW (Cb ρ i) d o) Z ad→Ar ρ Z ad:=fun ad ho=>by
  rcases ho with ho|⟨j,o',hj,ho⟩
  ·exact .inl ho
  ·rcases hsubH j o' ad hj ho with⟨_,rfl⟩|⟨_,_,h3⟩
   ·exact .inr ⟨i,o',hi,ho⟩
   ·exact .inr ⟨j,o',h3,ho⟩
 have hk:Keep w w (Ar ρ Z) (Ar (BW (Cb ρ i) d o) Z):=Keep.mono hout;have look: ∀j o',j≠d→ρ j=some o'→BW (Cb ρ i) d o j=some (if j=i then o'.dead else o'):=fun j o' e hj=>by
  rw[Gn _ _ e]
  unfold Cb
  grind[BZ,BG]
 have turn1:Cf ρ (BW (Cb ρ i) d o) w w Z (Bm d):=fun c v hc=>by
  cases c with
  |d x=>exact RepD.keep hk hc
  |nl=>exact hc
  |bad=>exact hc
  |sl j off n=>
   simp only[C.on,Bm];by_cases e:j=d
   ·simp only[e,if_true];exact RepC.one hc
   ·simp only[e,if_false];obtain⟨o',ho',r⟩:=hc;refine⟨_,look j o' e ho',?_⟩;split<;>exact r
  |ptr j off=>
   simp only[C.on,Bm];by_cases e:j=d
   ·simp only[e,if_true];exact RepC.one hc
   ·simp only[e,if_false];obtain⟨o',ho',r⟩:=hc;refine⟨_,look j o' e ho',?_⟩;split<;>exact r
  |mp q j=>
   simp only[C.on,Bm];by_cases e:j=d
   ·simp only[e,if_true];exact RepC.one hc
   ·simp only[e,if_false];obtain⟨o',ho',r⟩:=hc;refine⟨_,look j o' e ho',?_⟩;have eg:(if j=i then o'.dead else o').g=o'.g:=by split<;>rfl
    grind
 exact {
  fr:=h.fr
  heap:=⟨⟨fun j o' hj hn=>by
    rcases hsub j o' hj with⟨_,rfl⟩|⟨_,o1,h3,⟨_,rfl⟩|⟨_,rfl⟩⟩
    ·exact h.heap.owns.cells i o' hi hn
    ·cases hn
    ·exact h.heap.owns.cells j o' h3 hn,
   fun j j' o1 o2 hj hj' hne ad a1 a2=>by
    rcases hsubH j o1 ad hj a1 with⟨rfl,rfl⟩|⟨n1,n2,h3⟩
    ·rcases hsubH j' o2 ad hj' a2 with⟨rfl,rfl⟩|⟨n1',n2',h3'⟩
     ·omega
     ·exact h.heap.owns.apart i j' o1 o2 hi h3' (by omega) ad a1 a2
    ·rcases hsubH j' o2 ad hj' a2 with⟨rfl,rfl⟩|⟨n1',n2',h3'⟩
     ·exact h.heap.owns.apart j i o1 o2 h3 hi n2 ad a1 a2
     ·exact h.heap.owns.apart j j' o1 o2 h3 h3' hne ad a1 a2,
   fun j o' hj=>by
    rcases hsub j o' hj with⟨_,rfl⟩|⟨_,o1,h3,⟨_,rfl⟩|⟨_,rfl⟩⟩
    ·exact h.heap.owns.lim i o' hi
    ·exact h.heap.owns.lim j o1 h3
    ·exact h.heap.owns.lim j o' h3⟩,
   fun j b hj=>by
    by_cases e:j=d
    ·subst e;simp only[St.new,St.blk]at hj;rw[Bt]at hj;cases hj;obtain⟨o',ho',hr⟩:=h.heap.rep i _ hb;obtain rfl:o'=o:=(by grind)
     obtain⟨q1,q2,q3,q4,q5⟩:=hr
     exact⟨o',Cd _ _ _,q1,q2,q3,q4,fun k x hx=>by obtain⟨v,hv,hd⟩:=q5 k x hx;exact⟨v,hv,hd.keep hk⟩⟩
    ·simp only[St.new,St.blk]at hj;rw[BD e,BR e]at hj;rw[JG]at hj;obtain⟨_,hj⟩:=Hk hj;simp only[St.on,St.drop]at hj;rw[BN,jze]at hj;obtain⟨b0,hb0,rfl⟩:=hj;obtain⟨hne,hb0⟩:=Hk hb0;obtain⟨o',ho',hr⟩:=h.heap.rep j b0 hb0;refine⟨o',by grind,?_⟩
     exact hr.turn turn1 hk (fun _ _ _=>rfl) (fun _ _ _ h=>h)⟩
  mine:=fun j o' ad hj hh=>by
   rcases hsubH j o' ad hj hh with⟨_,rfl⟩|⟨_,_,h3⟩
   ·exact h.mine i o' ad hi hh
   ·exact h.mine j o' ad h3 hh
  out:=h.out
  mz:=h.mz
  tmps:=fun t v hv=>by
   simp only[St.new,St.blk,JG,St.on,St.drop]at hv;rw[BN,jze]at hv;obtain⟨v0,hv0,rfl⟩:=hv;exact(h.tmps t v0 hv0).turn turn1
  defers:=h.defers
  mps:=h.mps.sub fun j o' hj hm=>by
   rcases hsub j o' hj with⟨_,rfl⟩|⟨_,o1,h3,⟨_,rfl⟩|⟨_,rfl⟩⟩
   ·obtain⟨o2,ho2,hr⟩:=h.heap.rep i _ hb
    obtain rfl:o2=o':=(by grind)
    exact absurd hm (hr.nomp (by simp))
   ·cases hm.2
   ·exact h3 }
theorem NT(h:Rel M Z w0 ρ st a w){j:TI}{c:C}{v:Value}{m:Nat}{ds:List D}(hc:RepC ρ w Z c v)(hs:st.src j c=some (m,ds)):
  ∃A cap vs,v= .slice A m cap∧RepL (RepD w (Ar ρ Z)) ds vs∧vs.length=m*j.size∧ ∀k,k≤m→ ∀w':World,w'.heap=w.heap→(Builtin.firstCells j.size k v).run P w'= .ok (vs.take (k*j.size)).toArray w':=by
 have nilcase:v= .slice none 0 0→m=0→ds=[]→ ∃A cap vs,v= .slice A m cap∧RepL (RepD w (Ar ρ Z)) ds vs∧vs.length=m*j.size∧ ∀k,k≤m→ ∀w':World,w'.heap=w.heap→(Builtin.firstCells j.size k v).run P w'= .ok (vs.take (k*j.size)).toArray w':=by
  rintro rfl rfl rfl
  exact⟨none,0,[],rfl,⟨rfl,(by simp)⟩,by simp,(by simp_all[Builtin.firstCells])⟩
 have some_case: ∀(ad:Addr) (cap:Nat),v= .slice (some ad) m cap→ds.length=m*j.size→(ds≠[]→ad.spot=none)→
   (∀(q:Nat) (x:D),ds[q]? =some x→ ∃u,w.cell? ⟨ad.block,ad.off+q,none⟩=some u∧RepD w (Ar ρ Z) x u)→
   ∃A cap vs,v= .slice A m cap∧RepL (RepD w (Ar ρ Z)) ds vs∧vs.length=m*j.size∧ ∀k,k≤m→ ∀w':World,w'.heap=w.heap→(Builtin.firstCells j.size k v).run P w'= .ok (vs.take (k*j.size)).toArray w':=by
  intro ad cap hv hl hsp hcell;obtain⟨vs,hvs,hget⟩:=Iz (r:=RepD w (Ar ρ Z)) ds (fun q=>w.cell? ⟨ad.block,ad.off+q,none⟩) hcell
  have hvl:vs.length=m*j.size:=by rw[←hvs.1,hl]
  refine⟨_,_,vs,hv,hvs,hvl,fun k hk w' hw=> ?_⟩
  rw[hv]
  refine run_firstCells_some (P:=P) w' j.size k ad m cap (vs.take (k*j.size)) (by simp_all) fun q u hq=> ?_
  rw[List.getElem?_take]at hq
  split at hq<;>try (cases hq;done)
  have hne:ds≠[]:=(by grind)
  grind[Il,World.cell?]
 cases c with
 |nl=>cases hs;exact nilcase hc rfl rfl
 |bad=>simp[St.src]at hs
 |ptr=>simp[St.src]at hs
 |mp=>simp[St.src]at hs
 |d x=>
  cases x<;>simp only[St.src]at hs<;>try cases hs
  case slice n cs=>
   split at hs<;>cases hs
   rename_i hl
   cases hc with
   |snil=>grind
   |slice _ _ ad cap vs hsp hn hm h1 h2 h3=>grind
 |sl i off n=>
  simp only[St.src,jzd]at hs;obtain⟨b,hb,hs⟩:=hs;cases b with
  |box=>cases hs
  |fbox=>cases hs
  |mp=>cases hs
  |gh=>cases hs
  |row sz cs app=>
   simp only at hs;split at hs<;>cases hs;rename_i hcond;obtain⟨rfl,hlen⟩:=hcond;obtain⟨o,ho,_,hcase⟩:=hc;obtain⟨o',ho',hr⟩:=h.heap.rep i _ hb;obtain rfl:o'=o:=(by grind)
   obtain⟨q1,q2,q3,q4,q5⟩:=hr
   rcases hcase with⟨hn,rfl,rfl,rfl⟩|⟨hn,ad,cap,rfl,hnc,hcm,had,_⟩
   ·exact nilcase rfl rfl (by simp[AP])
   ·have hl:(AP (off*j.size) (m*j.size) cs).length=m*j.size:=by
     grind[Nat.add_mul,AP]
    rcases Nat.eq_zero_or_pos m with hm0|hm0
    ·simp_all
    ·have hae:ad=o'.at (off*o'.sz):=by
      grind
     subst hae;refine some_case _ cap rfl hl (fun _=>rfl) fun q x hx=> ?_
     rw[getElem?_cut]at hx
     grind
theorem VL(h:Rel M Z w0 ρ st a w){j:TI}{c:C}{v:Value}{m:Nat}{ds:List D}(hc:RepC ρ w Z c v)(hs:st.src j c=some (m,ds)):
  ∃A cap vs,v= .slice A m cap∧RepL (RepD w (Ar ρ Z)) ds vs∧vs.length=m*j.size∧ ∀w':World,w'.heap=w.heap→(Builtin.firstCells j.size m v).run P w'= .ok vs.toArray w':=by
 obtain⟨A,cap,vs,h1,h2,h3,h4⟩:=NT (P:=P) h hc hs
 grind
theorem Ls{t t' ty e:TypeId}{i:TypeInfo}{d':TypeDesc}(ht:P.underlying t=some (.slice e))(ht':P.underlying t'=some d')(hd':d'= .slice e∨d'= .string)(hi:P.info? e=some i)(base:Option Addr)(n c m:Nat){vy:Value}(hly:Builtin.lenOf vy=pure m)(news:List Value){w':World}
  (hnews:(Builtin.firstCells i.size m vy).run P w= .ok news.toArray w) (hroom:n+m≤c)
  (hst: ∀ad,base=some ad→(storeCells (ad.add (n*i.size)) news).run P w= .ok () w') (hn:base=none→w'=w):
  (Builtin.append_ #[t,t'] ty #[.slice base n c,vy]).run P w= .ok (.slice base (n+m) c) w':=by
 cases base with
 |none=>
  obtain rfl:=hn rfl;rcases hd' with rfl|rfl<;>simp[Builtin.append_,run_underlying ht,run_underlying ht',sizeOf,typeInfo,hi,hly,hroom,hnews]
 |some ad=>
  have hst:=hst ad rfl;rcases hd' with rfl|rfl<;>simp[Builtin.append_,run_underlying ht,run_underlying ht',sizeOf,typeInfo,hi,hly,hroom,hnews,hst]
theorem je1{t t' ty e:TypeId}{i:TypeInfo}{d':TypeDesc}{z:Value}(ht:P.underlying t=some (.slice e))(ht':P.underlying t'=some d')(hd':d'= .slice e∨d'= .string)(hi:P.info? e=some i)(hz:i.zero=some z)(base:Option Addr)(n c m:Nat){vy:Value}(hly:Builtin.lenOf vy=pure m)(olds news:List Value)
  (holds:(Builtin.firstCells i.size n (.slice base n c)).run P w.drew= .ok olds.toArray w.drew)
  (hnews:(Builtin.firstCells i.size m vy).run P w.drew= .ok news.toArray w.drew) (hg:c<n+m) (hby:(n+m)*i.bytes≤140737488355328) (hbig:n+m≤140737488355328):
  (Builtin.append_ #[t,t'] ty #[.slice base n c,vy]).run P w=
   .ok (.slice (some ⟨w.heap.size,0,none⟩) (n+m) (grownCap w (n+m) c e)) (w.drew.alloc (.cells (olds++(news++(Builtin.zeroCells z.cells (grownCap w (n+m) c e - (n+m))).toList)).toArray e)):=by
 have hn: ¬(n+m≤c):=by omega
 have h63': ¬(9223372036854775807<((n:Int)+(m:Int))):=by omega
 have hfit:Builtin.nextslicecap (n+m) c*i.bytes≤281474976710656:=growslice_fits (by omega) hby
 have h48': ¬(281474976710656<Builtin.nextslicecap (n+m) c*i.bytes):=by omega
 rcases hd' with rfl|rfl
 all_goals
  simp[Builtin.append_,run_underlying ht,run_underlying ht',sizeOf,typeInfo,zeroValue,hi,hz,hly,hn,h63',h48',Question.forced,hnews,holds,newRow,grownCap]
  congr 2
  simp
theorem Zz{t:TypeId}{i:TI}{info:TypeInfo}{d:TypeDesc}(ht:TyOk P t i info d)(h:MF i=true): ∃k,P.underlying t=some (.int k):=by
 have hd:=ht.desc;unfold MF at h;split at h
 ·rename_i h1 h2
  cases d<;>simp[Ct,h1,h2]at hd
  exact⟨_,ht.und⟩
 ·cases h
theorem jef{t t' ty e:TypeId}{k:IntKind}{i:TypeInfo}{z:Value}(ht:P.underlying t=some (.slice e))(ht':P.underlying t'=some (.int k))(hi:P.info? e=some i)(hz:i.zero=some z)(n:Nat)(h0:0<n)
  (hby:n*i.bytes≤140737488355328) (hbig:n≤140737488355328):
  (Builtin.append_ #[t,t'] ty #[.slice none 0 0,.int .i64 n]).run P w=
   .ok (.slice (some ⟨w.heap.size,0,none⟩) n (grownCap w n 0 e)) (w.drew.alloc (.cells ((if n*i.size=0 then #[] else Builtin.zeroCells z.cells n).toList++(Builtin.zeroCells z.cells (grownCap w n 0 e - n)).toList).toArray e)):=by
 have hw:IntKind.i64.wrap (n:Int)=n:=by rw[IntKind.wrap_i64];omega
 have hn: ¬(n≤0):=by omega
 have hneg: ¬((n:Int)<0):=by omega
 have h63': ¬(9223372036854775807<(n:Int)):=by omega
 have hb1: ¬(281474976710656<(n:Int)*(i.bytes:Int)):=by
  omega
 have hfit:Builtin.nextslicecap n 0*i.bytes≤281474976710656:=growslice_fits h0 hby;have h48': ¬(281474976710656<Builtin.nextslicecap n 0*i.bytes):=by omega
 by_cases hz0:n*i.size=0
 ·have hn0: ¬n=0:=by omega
  simp[Builtin.append_,run_underlying ht,run_underlying ht',sizeOf,typeInfo,zeroValue,hi,hz,asInt,asIntOf,hw,hneg,hb1,Builtin.firstCells,hn,hn0,h63',h48',Question.forced,newRow,grownCap,hz0]
 ·have hn0: ¬n=0:=by omega
  simp[Builtin.append_,run_underlying ht,run_underlying ht',sizeOf,typeInfo,zeroValue,hi,hz,asInt,asIntOf,hw,hneg,hb1,Builtin.firstCells,hn,hn0,h63',h48',Question.forced,newRow,grownCap,hz0]
  try (congr 2;simp)
theorem OL(h:Rel M Z w0 ρ st a w)(hT:A5 P T){o:Oper}{d:Nat}(hdst:o.dst=some d)(hd: ∀d,o.dst=some d→d<a.tmps.size)(t t':TypeId)(x y:Operand)
  (ho:o.op= .call { callee:= .builtin .append,args:= #[x,y],argTypes:= #[t,t'] }) {st':St} {i:TI} {e:Nat} {j:TI} {c:C} {d':TypeDesc} (ht':P.underlying t'=some d') (hd':d'= .slice e∨d'= .string)
  (hi:T t=some i) (he:i.sl=some e) (hj:T e=some j) (hc:st.evC x=some c) {m:Nat} {ds:List D} {vy:Value} {news:List Value} (hvy:a.eval y=vy) (hly:Builtin.lenOf vy=pure m) (hds:RepL (RepD w (Ar ρ Z)) ds news) (hnl:news.length=m*j.size)
  (hnews: ∀w':World,w'.heap=w.heap→(Builtin.firstCells j.size m vy).run P w'= .ok news.toArray w') (hst:st.app j d c ds m=some st'):StepOk P M Z w0 o st' a w:=by
 obtain⟨info,dd,ht⟩:=Be (hT t i hi)
 obtain⟨infe,de,hte⟩:=Be (hT e j hj)
 obtain⟨z,hz,hzc⟩:=hte.zero
 have hzr:RepL (RepC ρ w Z) j.zero z.cells.toList:=Ep hzc;have hzs:z.cells.size=j.size:=by have:=hzr.1;simp at this;rw[←this,hte.zlen]
 have hrun: ∀{v:Value} {w':World},(Builtin.append_ #[t,t'] o.type #[a.eval x,vy]).run P w= .ok v w'→(execOp a.eval o).run P w= .ok (.value v) w':=(by simp_all[execOp,resolve,invoke,builtin,Sem.run_bind,Sem.run_pure,Result.andThen_ok,List.map_toArray,List.map_cons,List.map_nil])
 have grow: ∀{ρ1:AE} {s1:St} (h1:Rel M Z w0 ρ1 s1 a w) (hsub: ∀ad,Ar ρ1 Z ad→Ar ρ Z ad) (base:Option Addr) (n c:Nat) (cs:List D) (olds:List Value),a.eval x= .slice base n c→
   RepL (RepD w (Ar ρ Z)) cs olds→olds.length=n*j.size→(∀w':World,w'.heap=w.heap→(Builtin.firstCells j.size n (.slice base n c)).run P w'= .ok olds.toArray w')→c<n+m→
   s1.appGo j d cs n ds m=some st'→StepOk P M Z w0 o st' a w:=by
  intro ρ1 s1 h1 hsub base n c cs olds hvx hcs hol hfo hg hst;unfold St.appGo at hst;split at hst
  case isFalse=>cases hst
  case isTrue hcond=>
   cases hst;obtain⟨hby,hbig⟩:=hcond
   unfold CP at hby hbig;have hr:=je1 (P:=P) (w:=w) (ty:=o.type) (ht.slice he) ht' hd' hte.inf hz base n c m hly olds news (by rw[hte.size];exact hfo w.drew rfl) (by rw[hte.size];exact hnews w.drew rfl) hg (by rw[hte.bytes];exact hby) hbig
   have hcap:=grownCap_ge w (n+m) c e;have hcapm:grownCap w (n+m) c e≤maxLen:=grownCap_le_maxLen w (n+m) c e (by unfold maxLen;omega)
   have hk:Keep w w (Ar ρ Z) (Ar ρ1 Z):=Keep.mono hsub;have hlen:(olds++news).length=(n+m)*j.size:=by rw[List.length_append,hol,hnl,Nat.add_mul]
   have hrow:=h1.newRow (Ext.drew w) rfl d (sz:=j.size) (room:=grownCap w (n+m) c e) (Builtin.zeroCells z.cells (grownCap w (n+m) c e - (n+m))).toList e true ((hcs.append hds).keepD hk) (by
    rw[List.length_append,hlen]
    simp only[Array.length_toList,size_zeroCells,hzs];rw[←Nat.add_mul]
    congr 1
    omega) hcapm
   rw[List.append_assoc]at hrow
   rw[←hvx]at hr
   exact .at hdst hd (hrun hr) hrow (KM _ w w Z d _ _ _ hcap hcapm)
 have hxr:=h.evC hc;cases c with
 |nl=>
  simp only[St.app]at hst;have hvx:a.eval x= .slice none 0 0:=hxr;rcases Nat.eq_zero_or_pos m with hm|hm
  ·subst hm;have hd0:ds=[]:=by have:=hds.1;grind
   have hnew0:news=[]:=(by grind)
   subst hd0;subst hnew0;unfold St.appGo at hst;split at hst<;>cases hst;have hr:=Ls (P:=P) (w:=w) (ty:=o.type) (ht.slice he) ht' hd' hte.inf none 0 0 0 hly [] (w':=w) (by rw[hte.size];exact hnews w rfl) (AO _) (by simp) (fun _=>rfl)
   rw[←hvx]at hr
   have hn:=h.new (Ext.refl w) d (o:={ g:=0,o:=0,sz:=j.size,room:=0,app:=true,nil:=true }) (b:= .row j.size ([]++[]) true)
    (fun ad hh=>by cases hh.1) (by simp) (by simp[maxLen]) ⟨rfl,rfl,by simp,(by simp),(by simp)⟩
   exact .at hdst hd (hrun hr) hn ⟨_,Cd _ _ _,by simp,(by grind)⟩
  ·exact grow h (fun _ h=>h) none 0 0 [] [] hvx ⟨rfl,(by simp)⟩ (by simp) (by simp_all[Builtin.firstCells]) (by omega) hst
 |bad=>simp[St.app]at hst
 |ptr=>simp[St.app]at hst
 |mp=>simp[St.app]at hst
 |d=>simp[St.app]at hst
 |sl b off n=>
  simp only[St.app,jzd]at hst;obtain⟨blk,hb,hst⟩:=hst;cases blk with
  |box=>cases hst
  |fbox=>cases hst
  |mp=>cases hst
  |gh=>cases hst
  |row sz cs app=>
   simp only at hst;have hwhich: ∃cs',(∀(q:Nat) (x:D),cs'[q]? =some x→cs[q]? =some x)∧cs'.length≤cs.length∧(app=true∧off=0∧sz=j.size∧cs'.length=n*sz)∧(st.drop b).appGo j d cs' n ds m=some st':=by
    grind
   clear hst;obtain⟨cs0,hsub0,hlen0,hcond,hst⟩:=hwhich
   first
   |skip
    obtain⟨rfl,rfl,rfl,hcl⟩:=hcond
    obtain⟨ow,how,hroom,hcase⟩:=hxr
    obtain⟨o2,ho2,hr⟩:=h.heap.rep b _ hb
    obtain rfl:o2=ow:=(by grind)
    obtain⟨q1,q2,q3,q4,q5⟩:=hr
    replace q3:=Nat.le_trans hlen0 q3
    replace q5:=fun(q:Nat) (x:D) (hx:cs0[q]? =some x)=>q5 q x (hsub0 q x hx)
    clear hsub0 hlen0 hb;clear cs;obtain⟨cs,rfl⟩: ∃cs,cs=cs0:=⟨_,rfl⟩;have hp1:=h.drop b;rcases hcase with⟨hn,hvx,_,rfl⟩|⟨hn,ad,cap,hvx,hnc,hcm,had,happ⟩
    ·have hcs0:cs=[]:=(by grind)
     subst hcs0;rcases Nat.eq_zero_or_pos m with hm|hm
     ·subst hm;have hd0:ds=[]:=by have:=hds.1;grind
      have hnew0:news=[]:=(by grind)
      subst hd0;subst hnew0;unfold St.appGo at hst;split at hst<;>cases hst;have hr:=Ls (P:=P) (w:=w) (ty:=o.type) (ht.slice he) ht' hd' hte.inf none 0 0 0 hly [] (w':=w) (by rw[hte.size];exact hnews w rfl) (AO _) (by simp) (fun _=>rfl)
      rw[←hvx]at hr
      have hn:=hp1.new (Ext.refl w) d (o:={ g:=0,o:=0,sz:=j.size,room:=0,app:=true,nil:=true }) (b:= .row j.size ([]++[]) true)
       (fun ad hh=>by cases hh.1) (by simp) (by simp[maxLen]) ⟨rfl,rfl,by simp,(by simp),(by simp)⟩
      exact .at hdst hd (hrun hr) hn ⟨_,Cd _ _ _,by simp,(by grind)⟩
     ·exact grow hp1 (fun _=>Jj) none 0 0 [] [] hvx ⟨rfl,(by simp)⟩ (by simp) (by simp_all[Builtin.firstCells]) (by omega) hst
    ·have hn0:=hn
     replace hn:o2.gone=false:=q4.2.trans hn
     obtain⟨olds,hol,hget⟩:=Iz (r:=RepD w (Ar ρ Z)) cs (fun q=>w.cell? (o2.at q)) q5
     have holl:olds.length=n*j.size:=by rw[←hol.1,hcl]
     by_cases hfit:n+m≤cap
     ·
      unfold St.appGo at hst;split at hst
      case isFalse=>cases hst
      case isTrue hcond2=>
       cases hst;have hspace:n*o2.sz+news.length≤o2.room*o2.sz:=by
        rw[hnl,q1,←Nat.add_mul]
        exact BC _ (by have:=happ q2;omega)
       have hw:=h.write how hn (off:=n*o2.sz) (vs:=news) hspace (b:= .row j.size (cs++ds) true) fun hk=>⟨q1,q2,by
         have:=hspace
         rw[q1,hnl]at this
         rw[List.length_append,hcl,hds.1,hnl]
         exact this,q4,fun q x hx=>by
         rw[GI h how hn hspace]
         by_cases hq:q<cs.length
         ·rw[List.getElem?_append_left hq]at hx
          rw[if_neg (by rw[q1];omega)]
          obtain⟨v,hv,hdd⟩:=q5 q x hx
          exact⟨v,hv,hdd.keep hk⟩
         ·rw[List.getElem?_append_right (by omega)]at hx
          have hq2:q - cs.length<ds.length:=(jzg.1 hx).1;have hq3:q - cs.length<news.length:=by rw[←hds.1];exact hq2
          rw[if_pos (by rw[q1];omega)]
          rw[show q - n*o2.sz=q - cs.length by rw[q1,hcl]]
          exact⟨_,AD hq3,(hds.2 _ _ _ hx (AD hq3)).keep hk⟩⟩
       have hmv:=hw.move (d:=d) how (sz:=j.size) (cs:=cs++ds) (app:=true) (by simp[St.blk,Bt])
       have hst:(storeCells (ad.add (n*infe.size)) news).run P w= .ok () (w.setCells o2.g (o2.o+n*o2.sz) news):=by
        rw[hte.size]
        rcases had with hc0|hae
        ·have hm0:m=0:=by omega
         subst hm0;have:news=[]:=List.eq_nil_of_length_eq_zero (by simpa using hnl)
         subst this;rfl
        ·subst hae;have hs2:=run_storeCells_cells (P:=P) o2.g (o2.o+n*o2.sz) news 0 w (fun q hq=>by
           obtain⟨⟨u,hu⟩,_⟩:=h.heap.owns.cells b o2 how hn (n*o2.sz+q) (by omega)
           have he:(⟨o2.g,o2.o+n*o2.sz+0+q,none⟩:Addr)=o2.at (n*o2.sz+q):=by simp;omega
           rw[he,hu];rfl) (fun q hq=>by
           obtain⟨_,hf⟩:=h.heap.owns.cells b o2 how hn (n*o2.sz+q) (by omega)
           have he:(⟨o2.g,o2.o+n*o2.sz+0+q,none⟩:Addr)=o2.at (n*o2.sz+q):=by simp;omega
           rw[he,hf]) (fun v hv=>by
           obtain⟨q,hq,rfl⟩:=List.getElem_of_mem hv
           exact(hds.2 q _ _ (AD (by rw[hds.1];exact hq)) (AD hq)).one)
         have hea:(o2.at (0*o2.sz)).add (n*j.size)=⟨o2.g,o2.o+n*o2.sz,none⟩:=by
          simp only[Own.at,E2];rw[q1];simp
         rw[hea]
         simpa using hs2
       have hr:=Ls (P:=P) (w:=w) (ty:=o.type) (ht.slice he) ht' hd' hte.inf (some ad) n cap m hly news (by rw[hte.size];exact hnews w rfl) hfit (fun ad' h'=>by cases h';exact hst) (fun h'=>by cases h')
       rw[←hvx]at hr
       have hcg:Rel M Z w0 (BW (Cb ρ b) d o2) ((st.drop b).new d (.row j.size (cs++ds) true)) a (w.setCells o2.g (o2.o+n*o2.sz) news):=
        hmv.congr (fun k=>by simp[St.new,St.blk,St.purge,St.on,St.drop]) (fun k=>by
         by_cases ek:k=d
         ·subst ek;simp[St.new,St.blk,Bt]
         ·simp only[St.new,St.blk];rw[BD ek,BD ek,BR ek,BR ek];simp only[St.purge,St.on,St.drop];rw[BR ek,BR ek,BN,BN]
          congr 1
          by_cases eb:k=b
          ·subst eb;rw[Ha,Ha]
          ·rw[BR eb,BR eb,BD eb,BR eb])
       refine .at hdst hd (hrun hr) hcg ⟨o2,Cd _ _ _,?_,.inr ⟨hn0,ad,cap,rfl,hfit,hcm,?_,fun _=> ?_⟩⟩
       ·have:=happ q2;omega
       ·rcases had with h0|h1
        ·exact .inl h0
        ·exact .inr h1
       ·have:=happ q2;omega
     ·refine grow hp1 (fun _=>Jj) (some ad) n cap cs olds hvx hol holl (fun w' hw'=> ?_) (by omega) hst
      refine run_firstCells_some (P:=P) w' j.size n ad n cap olds holl fun q u hq=> ?_
      have hq':q<olds.length:=(by grind)
      have hae:ad=o2.at (0*o2.sz):=by
       grind
      simp_all[Nat.zero_mul,Own.at,E2,World.cell?]
theorem WR(h:Rel M Z w0 ρ st a w)(hT:A5 P T){o:Oper}{d:Nat}(hdst:o.dst=some d)(hd: ∀d,o.dst=some d→d<a.tmps.size)(t:TypeId)(x y:Operand)
  (ho:o.op= .call { callee:= .builtin .append,args:= #[x,y],argTypes:= #[t,t] }) {st':St} {i:TI} {e:Nat} {j:TI} {c s:C} {p:Nat×List D}
  (hi:T t=some i) (he:i.sl=some e) (hj:T e=some j) (hc:st.evC x=some c) (hs:st.evC y=some s) (hp:st.src j s=some p) (hst:st.app j d c p.2 p.1=some st'):StepOk P M Z w0 o st' a w:=by
 obtain⟨m,ds⟩:=p
 obtain⟨A,cx,news,hvy,hds,hnl,hnews⟩:=VL (P:=P) (j:=j) h (h.evC hs) hp
 obtain⟨info,dd,ht⟩:=Be (hT t i hi)
 exact OL h hT hdst hd t t x y ho (ht.slice he) (.inl rfl) hi he hj hc hvy rfl hds hnl (by grind) hst
theorem jdM{t:TypeId}{i:TI}{info:TypeInfo}{d:TypeDesc}(ht:TyOk P t i info d)(h:Ce i=true):P.underlying t=some .string:=by
 have hd:=ht.desc;unfold Ce at h;split at h
 ·rename_i h1 h2 h3 h4
  cases d<;>simp[Ct,h1,h2,h3,h4]at hd
  exact ht.und
 ·cases h
theorem jhS(h:Rel M Z w0 ρ st a w)(hT:A5 P T){o:Oper}{d:Nat}(hdst:o.dst=some d)(hd: ∀d,o.dst=some d→d<a.tmps.size)(t t':TypeId)(x y:Operand)
  (ho:o.op= .call { callee:= .builtin .append,args:= #[x,y],argTypes:= #[t,t'] }) {st':St} {i k:TI} {e:Nat} {j:TI} {c:C} {s:ByteArray}
  (hi:T t=some i) (he:i.sl=some e) (hj:T e=some j) (hk:T t'=some k) (hstr:Ce k=true) (h1:j.size=1) (hc:st.evC x=some c) (hs:st.evC y=some (.d (.str s))) (hst:st.app j d c (J1 s) s.size=some st'):StepOk P M Z w0 o st' a w:=by
 obtain⟨infk,dk,htk⟩:=Be (hT t' k hk)
 have hvy:a.eval y= .string s:=by
  have:=h.evC hs
  generalize a.eval y=v at this;cases this;rfl
 refine OL h hT hdst hd t t' x y ho (jdM htk hstr) (.inr rfl) hi he hj hc (news:=(s.data.map fun b=>Value.int .u8 b.toNat).toList) hvy rfl ?_ ?_ ?_ hst
 ·refine⟨by simp[J1],fun q z v hz hv=> ?_⟩
  unfold J1 at hz;rw[Bf,jze]at hz;obtain⟨b,hb,rfl⟩:=hz;rw[Array.getElem?_toList,Array.getElem?_map,jze]at hv;obtain⟨b',hb',rfl⟩:=hv;rw[←Array.getElem?_toList,hb]at hb';cases hb';exact .int _ _
 ·simp_all
 ·intro w' hw;have e:(s.extract 0 s.size).data=s.data:=by
   simp
  show(pure ((s.extract 0 s.size).data.map fun b=>Value.int .u8 b.toNat):Sem _).run P w'=_
  rw[e]
  rfl
theorem jjn(h:Rel M Z w0 ρ st a w)(hT:A5 P T){o:Oper}{d:Nat}(hdst:o.dst=some d)(hd: ∀d,o.dst=some d→d<a.tmps.size)(t t':TypeId)(x y:Operand)
  (ho:o.op= .call { callee:= .builtin .append,args:= #[x,y],argTypes:= #[t,t'] }) {st':St} {i k:TI} {e:Nat} {j:TI} {c s:C}
  (hi:T t=some i) (he:i.sl=some e) (hj:T e=some j) (hk:T t'=some k) (hc:st.evC x=some c) (hs:st.evC y=some s) (hst:J0 k j d st c s=some st'):StepOk P M Z w0 o st' a w:=by
 unfold J0 at hst;split at hst
 case h_3=>cases hst
 case h_2 s0=>
  split at hst
  ·rename_i hh
   exact jhS h hT hdst hd t t' x y ho hi he hj hk hh.1 hh.2 hc hs hst
  ·cases hst
 case h_1 n=>
  split at hst<;>cases hst
  rename_i hcond
  obtain⟨hint,h0,hby,hbig⟩:=hcond
  unfold CP at hby hbig;obtain⟨info,dd,ht⟩:=Be (hT t i hi);obtain⟨infe,de,hte⟩:=Be (hT e j hj);obtain⟨infk,dk,htk⟩:=Be (hT t' k hk);obtain⟨kk,hku⟩:=Zz htk hint;obtain⟨z,hz,hzc⟩:=hte.zero;have hzr:RepL (RepC ρ w Z) j.zero z.cells.toList:=Ep hzc;have hzs:z.cells.size=j.size:=by have:=hzr.1;simp at this;rw[←this,hte.zlen]
  obtain⟨m,rfl⟩: ∃m:Nat,n=m:=⟨n.toNat,by omega⟩
  have hvx:a.eval x= .slice none 0 0:=h.evC hc
  have hvy:a.eval y= .int .i64 (m:Int):=by
   have:=h.evC hs
   generalize a.eval y=v at this;cases this;rfl
  have hr:=jef (P:=P) (w:=w) (ty:=o.type) (ht.slice he) hku hte.inf hz m (by omega) (by rw[hte.bytes];rw[←Int.natCast_mul]at hby;omega) (by omega)
  have hcap:m≤grownCap w m 0 e:=by have:=grownCap_ge w m 0 e;omega
  have hcapm:grownCap w m 0 e≤maxLen:=grownCap_le_maxLen w m 0 e (by unfold maxLen;omega)
  have hrow:=h.newRow (Ext.drew w) rfl d (sz:=j.size) (room:=grownCap w m 0 e) (ds:=[]) (vs:=[]) ((if m*infe.size=0 then #[] else Builtin.zeroCells z.cells m).toList++(Builtin.zeroCells z.cells (grownCap w m 0 e - m)).toList) e true ⟨rfl,fun q x v hx=>by simp at hx⟩ (by
   rw[List.nil_append,List.length_append]
   have e1:(if m*infe.size=0 then #[] else Builtin.zeroCells z.cells m).toList.length=m*j.size:=by
    rw[hte.size]
    split
    ·simp_all
    ·simp only[Array.length_toList,size_zeroCells,hzs]
   rw[e1]
   simp only[Array.length_toList,size_zeroCells,hzs];rw[←Nat.add_mul]
   congr 1
   omega) hcapm
  have hrun:(execOp a.eval o).run P w= .ok (.value (.slice (some ⟨w.heap.size,0,none⟩) m (grownCap w m 0 e))) (w.drew.alloc (.cells ((if m*infe.size=0 then #[] else Builtin.zeroCells z.cells m).toList++(Builtin.zeroCells z.cells (grownCap w m 0 e - m)).toList).toArray e)):=by
   simp only[execOp,ho,resolve,invoke,builtin,Sem.run_bind,Sem.run_pure,Result.andThen_ok,List.map_toArray,List.map_cons,List.map_nil,hvx,hvy,hr]
  exact .at hdst hd hrun hrow (KM _ w w Z d _ _ _ hcap hcapm)
end
end Go.Va
