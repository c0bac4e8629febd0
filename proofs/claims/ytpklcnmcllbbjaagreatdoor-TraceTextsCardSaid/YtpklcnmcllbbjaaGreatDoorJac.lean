/- a part of the proof -/
import Derived.Test.YtpklcnmcllbbjaaGreatDoorJab
import Derived.Laws.Tables
import Derived.Great.FillDense
import Derived.IntWalk
import Derived.Great.BuildSlice
set_option linter.all false
namespace Go.Va
open Go.RowKit
variable [Gv]
section
variable {P:Program} {T:AH} {M Z:Addr→Prop} {w0 w:World} {ρ:AE} {st:St} {a:Act}
theorem F8{d:Option Nat}{st st':St}{b:Blk}{c:Nat→C}(h:mk d st b c=some st'): ∃k,d=some k∧st'=(st.new k b).put (some k) (vC (c k)):=by
 unfold mk at h;rw[jze]at h;obtain⟨k,hk,rfl⟩:=h;exact⟨k,hk,rfl⟩
theorem StepOk.at{o:Oper}{k:Nat}(hk:o.dst=some k){v:V}{x:Value}{w':World}{ρ':AE}{s:St}(hd: ∀d,o.dst=some d→d<a.tmps.size)
  (hr:(execOp a.eval o).run P w= .ok (.value x) w') (h:Rel M Z w0 ρ' s a w') (hv:RepV ρ' w' Z v x):StepOk P M Z w0 o (s.put (some k) v) a w:=by
 have:=StepOk.new (o:=o) hd hr h hv
 rwa [hk]at this
theorem N2(h:Rel M Z w0 ρ st a w){o:Oper}(hd: ∀d,o.dst=some d→d<a.tmps.size)(x:Operand)(ho:o.op= .move x∨o.op= .assign x){st':St}
  (hs:(st.ev x).map (fun v=>st.put o.dst v)=some st'):StepOk P M Z w0 o st' a w:=by
 rw[jze]at hs
 obtain⟨v,hv,rfl⟩:=hs
 exact .val h hd (x:=a.eval x) (by rcases ho with ho|ho<;>simp[execOp,ho]) (h.ev hv)
theorem jjJ(h:Rel M Z w0 ρ st a w)(_:A5 P T){o:Oper}(hd: ∀d,o.dst=some d→d<a.tmps.size)(ho:o.op= .assign (.const (.slice none 0 0))){st':St}
  (hs:GH T o.type o.dst st=some st'):StepOk P M Z w0 o st' a w:=by
 simp only[GH,jzd,jze]at hs;obtain⟨k,hk,i,_,e,_,j,_,rfl⟩:=hs;have hn:=h.new (Ext.refl w) k (o:={ g:=0,o:=0,sz:=j.size,room:=0,app:=true,nil:=true }) (b:= .row j.size [] true)
  (fun ad hh=>by cases hh.1) (fun hh=>by cases hh) (by simp[maxLen]) ⟨rfl,rfl,by simp,⟨fun _=>rfl,rfl⟩,fun q x hx=>by simp at hx⟩
 exact .at hk hd (x:= .slice none 0 0) (by simp[execOp,ho,Act.eval]) hn ⟨_,Cd _ _ _,by simp,.inl ⟨rfl,rfl,rfl,rfl⟩⟩
theorem Y1(h:Rel M Z w0 ρ st a w){o:Oper}(hd: ∀d,o.dst=some d→d<a.tmps.size)(c x y:Operand)(ho:o.op= .pick c x y){st':St}
  (hs:((st.evB c).bind fun c=>(pickV c (st.ev x) (st.ev y)).map fun v=>st.put o.dst v)=some st'):StepOk P M Z w0 o st' a w:=by
 simp only[jzd,jze]at hs;obtain⟨b,hb,v,hv,rfl⟩:=hs;have hb':=h.evB hb;cases b with
 |true=>exact .val h hd (x:=a.eval x) (by simp[execOp,ho,hb',asBool]) (h.ev (by simpa [pickV]using hv))
 |false=>exact .val h hd (x:=a.eval y) (by simp[execOp,ho,hb',asBool]) (h.ev (by simpa [pickV]using hv))
theorem J4{n:Nat}(h:n≤10000):n≤maxLen:=by unfold maxLen;omega
theorem jbP(h:Rel M Z w0 ρ st a w)(hT:A5 P T){o:Oper}(hd: ∀d,o.dst=some d→d<a.tmps.size)(t:TypeId)(ho:o.op= .alloc t){st':St}
  (hs:((T t).bind fun i=>mk o.dst st (.box i.zero) fun d=> .ptr d 0)=some st'):StepOk P M Z w0 o st' a w:=by
 rw[jzd]at hs
 obtain⟨i,hi,hs⟩:=hs
 obtain⟨k,hk,rfl⟩:=F8 hs
 obtain⟨info,d,ht⟩:=Be (hT t i hi)
 obtain⟨z,hz,hzc⟩:=ht.zero
 have hb:=h.newBox k t (Ep hzc) (by rw[ht.zlen];exact J4 ht.small)
 refine .at hk hd (x:= .pointer (some ⟨w.heap.size,0,none⟩)) ?_ hb ⟨_,Cd _ _ _,rfl,by simp[BB]⟩
 simp[execOp,ho,Instr.alloc,zeroValue,typeInfo,ht.inf,hz,newVar,newRow]
theorem Rel.newFbox(h:Rel M Z w0 ρ st a w)(i:Nat){f:FuncId}{cs:List C}{v:Value}(e:TypeId)(hr:RepU ρ w Z (.clo f cs) v):
  Rel M Z w0 (BW ρ i (BB w 1 1 false)) (st.new i (.fbox f cs)) a (w.alloc (.cells #[v] e)):=by
 refine h.new (Ext.alloc w _) i (Ln w _ _ _) (fun _ j hj=>⟨?_,?_⟩) (by simp[BB,maxLen]) ?_
 ·have hj':j=0:=by simp[BB]at hj;exact hj
  subst hj';exact⟨v,by simp[BB,Own.at]⟩
 ·simp only[BB,Own.at,Nat.zero_add];exact NG w #[v] e j
 ·exact⟨rfl,rfl,⟨rfl,rfl⟩,v,by simp[BB,Own.at],hr⟩
theorem ZB(h:Rel M Z w0 ρ st a w)(hT:A5 P T){o:Oper}(hd: ∀d,o.dst=some d→d<a.tmps.size)(t:TypeId)(x:Operand)(ho:o.op= .box t x){st':St}
  (hs:((T t).bind fun i=>(st.evU x).bind fun u=>if u.cells.length=i.size then mk o.dst st (Fq u) (fun d=> .ptr d 0) else none)=some st'):StepOk P M Z w0 o st' a w:=by
 simp only[jzd]at hs;obtain⟨i,hi,u,hu,hs⟩:=hs;split at hs
 case isFalse=>cases hs
 case isTrue hl=>
  obtain⟨k,hk,rfl⟩:=F8 hs
  obtain⟨info,d,ht⟩:=Be (hT t i hi)
  have hur:=h.evU hu;cases u with
  |clo f cs=>
   have hb:=h.newFbox k t hur;refine .at hk hd (x:= .pointer (some ⟨w.heap.size,0,none⟩)) ?_ hb ⟨_,Cd _ _ _,rfl,by simp[BB]⟩
   obtain⟨vs,hv,_⟩:=hur
   simp[execOp,ho,Instr.box,newVar,newRow,hv,Value.cells]
  |c x=>
   have hb:=h.newBox k t hur.cells (by rw[hl];exact J4 ht.small)
   refine .at hk hd (x:= .pointer (some ⟨w.heap.size,0,none⟩)) ?_ hb ⟨_,Cd _ _ _,rfl,by simp[BB]⟩
   simp[execOp,ho,Instr.box,newVar,newRow]
  |agg cs=>
   have hb:=h.newBox k t hur.cells (by rw[hl];exact J4 ht.small)
   refine .at hk hd (x:= .pointer (some ⟨w.heap.size,0,none⟩)) ?_ hb ⟨_,Cd _ _ _,rfl,by simp[BB]⟩
   simp[execOp,ho,Instr.box,newVar,newRow]
theorem Df{α:Type}(off:Nat)(new l:List α)(h:off+new.length≤l.length)(k:Nat):
  (splice off new l)[k]? =if off≤k∧k<off+new.length then new[k - off]? else l[k]? :=by
 unfold splice;rw[List.append_assoc];by_cases h1:k<off
 ·rw[List.getElem?_append_left (by simp;omega),List.getElem?_take,if_pos h1,if_neg (by omega)]
 ·rw[List.getElem?_append_right (by simp;omega)]
  simp only[A8,Bs (show off≤l.length by omega)]
  by_cases h2:k<off+new.length
  ·rw[List.getElem?_append_left (by omega),if_pos (by omega)]
  ·rw[List.getElem?_append_right (by omega),List.getElem?_drop,if_neg (by omega)]
   congr 1
   omega
theorem F1{α:Type}(off:Nat)(new l:List α)(h:off+new.length≤l.length):(splice off new l).length=l.length:=by
 unfold splice;simp;omega
theorem RepL.splice{α:Type}{r:α→Value→Prop}{off:Nat}{new l:List α}{vn vl:List Value}(hn:RepL r new vn)(hl:RepL r l vl)(h:off+new.length≤l.length):
  RepL r (splice off new l) (splice off vn vl):=by
 have h':off+vn.length≤vl.length:=by rw[←hn.1,←hl.1];exact h
 refine⟨by rw[F1 _ _ _ h,F1 _ _ _ h',hl.1],fun j x v hx hv=> ?_⟩
 rw[Df _ _ _ h]at hx
 rw[Df _ _ _ h',←hn.1]at hv
 split at hx
 ·rw[if_pos ‹_›]at hv;exact hn.2 _ _ _ hx hv
 ·rw[if_neg ‹_›]at hv;exact hl.2 _ _ _ hx hv
theorem jfE(off:Nat)(v cells:Array Value)(h:off+v.size≤cells.size):
  (v.zipIdx.foldl (fun cs (x:Value×Nat)=>cs.setIfInBounds (off+x.2) x.1) cells).toList=splice off v.toList cells.toList:=by
 obtain⟨g1,g2⟩:=Great.foldl_set off v.toList 0 cells
 have e:v.zipIdx.foldl (fun cs (x:Value×Nat)=>cs.setIfInBounds (off+x.2) x.1) cells=(v.toList.zipIdx 0).foldl (fun cs (x:Value×Nat)=>cs.setIfInBounds (off+x.2) x.1) cells:=by
  rw[←Array.foldl_toList,Array.toList_zipIdx]
 rw[e]
 apply List.ext_getElem?
 intro k;rw[Df _ _ _ (by simpa using h),Array.getElem?_toList,g2 k]
 simp only[Nat.add_zero,Array.length_toList];by_cases hk:off≤k∧k<off+v.size
 ·rw[if_pos ⟨hk.1,hk.2,by omega⟩,if_pos hk]
 ·rw[if_neg (by omega),if_neg hk]
  simp
theorem KF{r:C→Value→Prop}{place:Nat→Option (Nat×Nat)}: ∀{parts:List (Nat×List C)} {vps:List (Nat×Value)} {cs cs':List C} {vs:Array Value},
  RepL r cs vs.toList→parts.length=vps.length→(∀(j:Nat) (p:Nat×List C) (q:Nat×Value),parts[j]? =some p→vps[j]? =some q→p.1=q.1∧RepL r p.2 q.2.cells.toList)→DE place cs parts=some cs'→
  ∃vs',Instr.fill place vs vps=some vs'∧RepL r cs' vs'.toList
 |[],[],cs,cs',vs,h,_,_,hf=>by cases hf;exact⟨vs,rfl,h⟩
 |[],_::_,_,_,_,_,hl,_,_=>by simp at hl
 |_::_,[],_,_,_,_,hl,_,_=>by simp at hl
 |(i,c)::ps,(i',v)::vps,cs,cs',vs,h,hl,hp,hf=>by
  obtain⟨h1,h2⟩:=hp 0 _ _ rfl rfl
  simp at h1 h2;subst h1;simp only[DE,jzd]at hf;obtain⟨p,hpl,hf⟩:=hf;split at hf
  case isFalse=>cases hf
  case isTrue hc=>
   have hsz:v.cells.size=c.length:=by have:=h2.1;simpa using this.symm
   have hcs:cs.length=vs.size:=by have:=h.1;simpa using this
   have hfit:p.1+v.cells.size≤vs.size:=by omega
   obtain⟨vs',hv',hr'⟩:=KF (vps:=vps) (vs:=v.cells.zipIdx.foldl (fun cs (x:Value×Nat)=>cs.setIfInBounds (p.1+x.2) x.1) vs)
    (by rw[jfE _ _ _ hfit];exact h2.splice h (by omega)) (by simpa using hl) (fun j q q' hq hq'=>hp (j+1) q q' (by simpa using hq) (by simpa using hq')) hf
   refine⟨vs',?_,hr'⟩
   unfold Instr.fill;rw[hpl];simp only;rw[if_neg (by simp;omega)]
   exact hv'
theorem Ns(h:Rel M Z w0 ρ st a w): ∀{ps:List (Nat×Operand)} {l:List (Nat×List C)},st.evUs ps=some l→
  l.length=(ps.map fun p=>(p.1,a.eval p.2)).length∧ ∀(j:Nat) (p:Nat×List C) (q:Nat×Value),l[j]? =some p→(ps.map fun p=>(p.1,a.eval p.2))[j]? =some q→p.1=q.1∧RepL (RepC ρ w Z) p.2 q.2.cells.toList
 |[],l,hl=>by cases hl;exact⟨rfl,fun j p q hp=>by simp at hp⟩
 |(i,x)::r,l,hl=>by
  simp only[St.evUs,jzd,jze]at hl;obtain⟨u,hu,l',hl',rfl⟩:=hl;obtain⟨h1,h2⟩:=Ns h hl';refine⟨by simpa using h1,fun j p q hp hq=> ?_⟩
  cases j with
  |zero=>simp at hp hq;subst hp;subst hq;exact⟨rfl,(h.evU hu).cells⟩
  |succ j=>exact h2 j p q (by simpa using hp) (by simpa using hq)
theorem QX(a:Act)(ps:Array (Nat×Operand)):(ps.map fun x=>(x.1,a.eval x.2)).toList=ps.toList.map fun p=>(p.1,a.eval p.2):=by simp
theorem Tz(hT:A5 P T): ∀(fs:List (Nat×Nat)) (l:List Field),fs=l.map (fun f=>(f.offset,f.type))→ ∀ps:List (Nat×Nat),fs.mapM (fun p=>(T p.2).map fun j=>(p.1,j.size))=some ps→
  l.mapM (fun f=>(P.info? f.type).map fun i=>(f.offset,i.size))=some ps
 |_,[],hfs,ps,hp=>by subst hfs;simpa using hp
 |_,f::l,hfs,ps,hp=>by
  subst hfs;simp only[List.map_cons,List.mapM_cons,Option.bind_eq_bind,Option.pure_def,jzd,jze,Option.some.injEq]at hp;obtain⟨q,⟨j,hj,rfl⟩,r,hr,rfl⟩:=hp;obtain⟨info,d,ht⟩:=Be (hT _ _ hj);have ih:=Tz hT _ l rfl r hr;simp[List.mapM_cons,ht.inf,ih,ht.size]
theorem jb6(h:Rel M Z w0 ρ st a w)(hT:A5 P T){o:Oper}(hd: ∀d,o.dst=some d→d<a.tmps.size)(t:TypeId)(parts:Array (Nat×Operand))(ho:o.op= .build t parts){st':St}
  (hs:((T t).bind fun i=>(st.evUs parts.toList).bind fun l=>(build T i l).map fun u=>st.put o.dst (.u u))=some st'):StepOk P M Z w0 o st' a w:=by
 simp only[jzd,jze]at hs;obtain⟨i,hi,l,hl,u,hu,rfl⟩:=hs;obtain⟨info,d,ht⟩:=Be (hT t i hi);obtain⟨z,hz,hzc⟩:=ht.zero;obtain⟨hl1,hl2⟩:=Ns h hl;have hzr:RepL (RepC ρ w Z) i.zero z.cells.toList:=Ep hzc;have key: ∃vs,P.built t (parts.map fun(i,x)=>(i,a.eval x)).toList=some vs∧RepU ρ w Z u (.agg vs):=by
  unfold build at hu;have he:(parts.map fun(i,x)=>(i,a.eval x)).toList=parts.toList.map fun p=>(p.1,a.eval p.2):=QX a parts
  split at hu
  ·rename_i n e harr
   simp only[jzd,jze]at hu;obtain⟨j,hj,cs,hcs,rfl⟩:=hu;obtain⟨infe,de,hte⟩:=Be (hT e j hj);obtain⟨vs,hv,hr⟩:=KF hzr hl1 hl2 hcs;refine⟨vs,?_,vs.toList,by simp,hr⟩
   unfold Program.built;rw[ht.inf,ht.array harr];simp only[hz,hte.inf,hte.size,he];exact hv
  ·split at hu
   case isFalse=>cases hu
   case isTrue hagg=>
    simp only[jzd,jze]at hu;obtain⟨ps,hps,cs,hcs,rfl⟩:=hu;obtain⟨vs,hv,hr⟩:=KF hzr hl1 hl2 hcs;refine⟨vs,?_,vs.toList,by simp,hr⟩
    have hdd:=ht.desc;have harr:i.arr=none:=by assumption
    cases d<;>simp[Ct,harr,hagg]at hdd
    case struct fs=>
     have hpl:=Tz (P:=P) hT i.flds fs.toList hdd.2 ps hps;unfold Program.built;rw[ht.inf,ht.und];simp only[hz,hpl,he];have:(fun x=>(ps.toArray[x]? :Option (Nat×Nat)))=Kk ps:=by funext x;simp[Kk]
     rw[this]
     exact hv
 obtain⟨vs,hv,hr⟩:=key
 refine .val h hd (x:= .agg vs) ?_ hr;simp only[execOp,ho,Sem.run_bind,run_build w t _ vs hv,Result.andThen_ok,Sem.run_pure]
theorem RepL.map_d{cs:List D}{vs:List Value}{ρ:AE}{w:World}{Z:Addr→Prop}(h:RepL (RepD w (Ar ρ Z)) cs vs):RepL (RepC ρ w Z) (cs.map .d) vs:=
 h.imp C.d fun _ _ _ hx=>hx
theorem Yc(w:World)(g o:Nat)(vs:List Value)(h: ∀(j:Nat) (v:Value),vs[j]? =some v→w.cell? ⟨g,o+j,none⟩=some v):(loadCells ⟨g,o,none⟩ vs.length).run P w= .ok vs.toArray w:=
 run_loadCells_list w ⟨g,o,none⟩ vs fun j v hv=>by rw[E2];exact h j v hv
theorem Qr{t:TypeId}{i:TI}{info:TypeInfo}{d:TypeDesc}(ht:TyOk P t i info d)(ha:i.agg=true)(g o:Nat)(vs:List Value)(hl:vs.length=i.size)
  (h: ∀(j:Nat) (v:Value),vs[j]? =some v→w.cell? ⟨g,o+j,none⟩=some v):(loadVar t ⟨g,o,none⟩).run P w= .ok (.agg vs.toArray) w:=by
 have hc:=Yc (P:=P) w g o vs h;rw[hl]at hc;simp[loadVar,ht.isAgg,ha,ht.sizeOf,hc]
theorem MS{t:TypeId}{i:TI}{info:TypeInfo}{d:TypeDesc}(ht:TyOk P t i info d)(ha:i.agg=false)(g o:Nat)(v:Value)
  (h:w.cell? ⟨g,o,none⟩=some v):(loadVar t ⟨g,o,none⟩).run P w= .ok v w:=by
 simp[loadVar,ht.isAgg,ha,load,Sem.run,h]
def Blk.all:Blk→List C
 | .row _ cs _=>cs.map .d
 | .box cs=>cs
 | .fbox _ _=>[.bad]
 | .mp _=>[]
 | .gh _=>[]
theorem RepB.all{o:Own}{b:Blk}(hb:RepB ρ w Z o b){j:Nat}{c:C}(h:b.all[j]? =some c): ∃v,w.cell? (o.at j)=some v∧one v∧RepC ρ w Z c v:=by
 cases b with
 |row sz cs app=>
  obtain⟨_,_,_,_,h5⟩:=hb
  simp only[Blk.all,Bf,jze]at h;obtain⟨x,hx,rfl⟩:=h;obtain⟨v,hv,hd⟩:=h5 j x hx;exact⟨v,hv,hd.one,hd⟩
 |box cs=>
  obtain⟨_,_,_,h4⟩:=hb
  exact h4 j c h
 |fbox f cs=>
  obtain⟨_,_,_,v,hv,vs,rfl,_⟩:=hb
  cases j with
  |zero=>simp[Blk.all]at h;subst h;exact⟨_,hv,rfl,rfl⟩
  |succ j=>simp[Blk.all]at h
 |mp es=>simp[Blk.all]at h
 |gh es=>simp[Blk.all]at h
theorem jeH{b:Blk}{off k:Nat}{cs:List C}(h:b.rd off k=some cs):off+k≤b.all.length∧cs=AP off k b.all:=by
 cases b with
 |row sz l app=>
  simp only[Blk.rd]at h;split at h<;>cases h;refine⟨by simpa [Blk.all],by simp[Blk.all,AP,List.map_take,List.map_drop]⟩
 |box l=>
  simp only[Blk.rd]at h;split at h<;>cases h;exact⟨by simpa [Blk.all],rfl⟩
 |fbox f l=>simp[Blk.rd]at h
 |mp es=>simp[Blk.rd]at h
 |gh es=>simp[Blk.rd]at h
theorem jkE{b:Blk}{off:Nat}{u:U}(h:b.ld off=some u):(∃c,u= .c c∧b.all[off]? =some c)∨(off=0∧ ∃f cs,u= .clo f cs∧b= .fbox f cs):=by
 cases b with
 |row sz l app=>simp only[Blk.ld,jze]at h;obtain⟨x,hx,rfl⟩:=h;exact .inl ⟨_,rfl,by simp[Blk.all,hx]⟩
 |box l=>simp only[Blk.ld,jze]at h;obtain⟨x,hx,rfl⟩:=h;exact .inl ⟨_,rfl,hx⟩
 |fbox f l=>
  simp only[Blk.ld]at h;split at h<;>cases h;exact .inr ⟨‹_›,_,_,rfl,rfl⟩
 |mp es=>simp[Blk.ld]at h
 |gh es=>simp[Blk.ld]at h
theorem Iz{α:Type}{r:α→Value→Prop}: ∀(cs:List α) (f:Nat→Option Value),(∀(j:Nat) (x:α),cs[j]? =some x→ ∃v,f j=some v∧r x v)→
  ∃vs:List Value,RepL r cs vs∧ ∀(j:Nat) (v:Value),vs[j]? =some v→f j=some v
 |[],_,_=>⟨[],⟨rfl,fun j x v hx=>by simp at hx⟩,fun j v hv=>by simp at hv⟩
 |c::r',f,h=>by
  obtain⟨v,hv,hr⟩:=h 0 c rfl
  obtain⟨vs,⟨h1,h2⟩,h3⟩:=Iz r' (fun j=>f (j+1)) (fun j x hx=>h (j+1) x (by simpa using hx))
  refine⟨v::vs,⟨by simp[h1],fun j x u hx hu=> ?_⟩,fun j u hu=> ?_⟩
  ·cases j with
   |zero=>simp at hx hu;subst hx;subst hu;exact hr
   |succ j=>exact h2 j x u (by simpa using hx) (by simpa using hu)
  ·cases j with
   |zero=>simp at hu;subst hu;exact hv
   |succ j=>exact h3 j u (by simpa using hu)
theorem Tr(h:Rel M Z w0 ρ st a w){t:TypeId}{i:TI}{info:TypeInfo}{d:TypeDesc}(ht:TyOk P t i info d){c:C}{x:Value}(hcr:RepC ρ w Z c x){u:U}(hu:st.load i c=some u):
  ∃ad v,x= .pointer (some ad)∧(loadVar t ad).run P w= .ok v w∧RepU ρ w Z u v:=by
 have fin: ∀(g q:Nat) (v:Value),x= .pointer (some ⟨g,q,none⟩)→(loadVar t ⟨g,q,none⟩).run P w= .ok v w→RepU ρ w Z u v→ ∃ad v,x= .pointer (some ad)∧(loadVar t ad).run P w= .ok v w∧RepU ρ w Z u v:=fun g q v he hr hv=>
  ⟨_,v,he,hr,hv⟩
 cases c with
 |nl=>simp[St.load]at hu
 |bad=>simp[St.load]at hu
 |sl=>simp[St.load]at hu
 |mp=>simp[St.load]at hu
 |ptr b off=>
  simp only[St.load,jzd]at hu;obtain⟨k,hk,hu⟩:=hu;obtain⟨o',ho',hn',he⟩:=hcr;obtain⟨o2,ho2,hb⟩:=h.heap.rep b k hk;obtain rfl:o2=o':=Bi (ho2.symm.trans ho');cases ha:i.agg with
  |true=>
   rw[ha]at hu
   simp only[if_true,jze]at hu;obtain⟨cs,hcs,rfl⟩:=hu;obtain⟨hlen,rfl⟩:=jeH hcs;obtain⟨vs,hvs,hcell⟩:=Iz (r:=RepC ρ w Z) (AP off i.size k.all) (fun j=>w.cell? (o2.at (off+j))) (fun j y hy=>by
    rw[getElem?_cut]at hy
    split at hy
    ·obtain⟨v,hv,_,hr⟩:=hb.all hy;exact⟨v,hv,hr⟩
    ·cases hy)
   have hvl:vs.length=i.size:=by rw[←hvs.1];simp[AP];omega
   refine fin _ _ (.agg vs.toArray) he (Qr ht ha _ _ vs hvl fun j v hv=> ?_) ⟨vs,rfl,hvs⟩
   have:=hcell j v hv
   simpa [Own.at,Nat.add_assoc]using this
  |false=>
   rw[ha]at hu
   simp only[Bool.false_eq_true,if_false]at hu;rcases jkE hu with⟨cc,rfl,hcc⟩|⟨rfl,f,cs,rfl,rfl⟩
   ·obtain⟨v,hv,_,hr⟩:=hb.all hcc
    exact fin _ _ v he (MS ht ha _ _ v hv) hr
   ·obtain⟨_,_,_,v,hv,hr⟩:=hb
    exact fin _ _ v he (MS ht ha _ _ v hv) hr
 |d y=>
  cases y with
  |ref cs=>
   simp only[St.load]at hu;cases hcr with
   |ref _ ad vs hsp h1 h2 h3=>
    have hx:Value.pointer (some ad)= .pointer (some ad):=rfl
    cases ha:i.agg with
    |true=>
     rw[ha]at hu
     simp only[if_true]at hu;split at hu
     case isFalse=>cases hu
     case isTrue hlen=>
      cases hu;by_cases h0:i.size=0
      ·have hc0:cs.take i.size=[]:=by simp[h0]
       rw[hc0]
       obtain⟨blk,off,spot⟩:=ad
       have hr:(loadVar t ⟨blk,off,spot⟩).run P w= .ok (.agg #[]) w:=by
        simp[loadVar,ht.isAgg,ha,ht.sizeOf,h0,loadCells,loadCellsFrom]
       exact⟨_,.agg #[],rfl,hr,⟨[],rfl,rfl,fun j x v hx=>by simp at hx⟩⟩
      ·have hne:cs≠[]:=fun e=>by subst e;simp at hlen;omega
       have hsp':=hsp hne;obtain⟨blk,off,spot⟩:=ad;simp at hsp';subst hsp';obtain⟨us,hus,hcell⟩:=Iz (r:=RepD w (Ar ρ Z)) (cs.take i.size) (fun j=>w.cell? ⟨blk,off+j,none⟩) (fun j y hy=>by
        rw[List.getElem?_take]at hy
        split at hy
        ·exact⟨_,h1 j y hy,h3 j y hy⟩
        ·cases hy)
       have hul:us.length=i.size:=by rw[←hus.1];simp;omega
       exact fin _ _ (.agg us.toArray) hx (Qr ht ha _ _ us hul hcell) ⟨us,rfl,hus.map_d⟩
    |false=>
     rw[ha]at hu
     simp only[Bool.false_eq_true,if_false,jze]at hu;obtain⟨y,hy,rfl⟩:=hu;have hne:cs≠[]:=fun e=>by subst e;simp at hy
     have hsp':=hsp hne;obtain⟨blk,off,spot⟩:=ad;simp at hsp';subst hsp';exact fin _ _ _ hx (MS ht ha _ _ _ (by simpa using h1 0 y hy)) (h3 0 y hy)
  |_=>simp[St.load]at hu
theorem XG(h:Rel M Z w0 ρ st a w)(hT:A5 P T){o:Oper}(hd: ∀d,o.dst=some d→d<a.tmps.size)(t:TypeId)(x:Operand)(ho:o.op= .load t x){st':St}
  (hs:((T t).bind fun i=>(st.evC x).bind fun c=>(st.load i c).map fun u=>st.put o.dst (.u u))=some st'):StepOk P M Z w0 o st' a w:=by
 simp only[jzd,jze]at hs;obtain⟨i,hi,c,hc,u,hu,rfl⟩:=hs;obtain⟨info,d,ht⟩:=Be (hT t i hi);obtain⟨ad,v,he,hr,hv⟩:=Tr (P:=P) h ht (h.evC hc) hu;exact .val h hd (x:=v) (by simp[execOp,ho,Instr.loadAt,Instr.sureAddr,he,hr]) hv
end
end Go.Va
namespace Go.Va
open Go.RowKit
variable [Gv]
section
variable {P:Program} {T:AH} {M Z:Addr→Prop} {w0 w:World} {ρ:AE} {st:St} {a:Act}
theorem RepL.ones{cs:List C}{vs:List Value}(h:RepL (RepC ρ w Z) cs vs): ∀v∈vs,v.oneCell'=true:=by
 intro v hv;obtain⟨j,hj,rfl⟩:=List.getElem_of_mem hv;have hc:j<cs.length:=by rw[h.1];exact hj
 exact RepC.one (h.2 j _ _ (AD hc) (AD hj))
theorem Vj{t:TypeId}{i:TI}{info:TypeInfo}{d:TypeDesc}(ht:TyOk P t i info d){o:Own}{off:Nat}{v:Value}(hl:v.cells.size=i.size)
  (hc: ∀j,j<v.cells.size→(w.cell? (o.at (off+j))).isSome=true∧w.frozen? (o.at (off+j))=false) (h1: ∀u∈v.cells.toList,u.oneCell'=true):
  (storeVar t (o.at off) v).run P w= .ok () (w.setCells o.g (o.o+off) v.cells.toList):=by
 have hs:=run_storeCells_cells (P:=P) o.g (o.o+off) v.cells.toList 0 w (fun j hj=>by
   have:=(hc j (by simpa using hj)).1
   simpa [Own.at,Nat.add_assoc]using this) (fun j hj=>by
   have:=(hc j (by simpa using hj)).2
   simpa [Own.at,Nat.add_assoc]using this) h1
 simp only[Nat.add_zero]at hs;simp[storeVar,ht.sizeOf,hl,Own.at,hs]
theorem GI(h:Rel M Z w0 ρ st a w){i:Nat}{o:Own}(hi:ρ i=some o)(hn:o.gone=false){off:Nat}{vs:List Value}(hfit:off+vs.length≤o.room*o.sz)(j:Nat):
  (w.setCells o.g (o.o+off) vs).cell? (o.at j)=if off≤j∧j<off+vs.length then vs[j - off]? else w.cell? (o.at j):=by
 by_cases hj:off≤j∧j<off+vs.length
 ·rw[if_pos hj]
  have:=World.cell?_setCells_in o.g vs (o.o+off) w (fun q hq=>by
   obtain⟨⟨u,hu⟩,_⟩:=h.heap.owns.cells i o hi hn (off+q) (by omega)
   have he:(⟨o.g,o.o+off+q,none⟩:Addr)=o.at (off+q):=by simp;omega
   rw[he,hu];rfl) (j - off) (by omega)
  have he:(⟨o.g,o.o+off+(j - off),none⟩:Addr)=o.at j:=by simp;omega
  rw[he]at this
  rw[this,AD]
 ·rw[if_neg hj]
  apply World.cell?_setCells_out
  intro _ _;simp;omega
theorem Ro{b off:Nat}{u:U}{st s:St}{k:Blk}(h:st.storeU b off u k=some s):(∃f cs l0,u= .clo f cs∧k= .box [l0]∧off=0∧s=st.blk b (.fbox f cs))∨st.storeB b off u.cells k=some s:=by
 unfold St.storeU at h;split at h
 ·split at h
  ·split at h<;>cases h
   exact .inl ⟨_,_,_,rfl,rfl,‹_›,rfl⟩
  ·exact .inr h
 ·exact .inr h
 ·exact .inr h
theorem jae(h:Rel M Z w0 ρ st a w)(hT:A5 P T){o:Oper}(hd: ∀d,o.dst=some d→d<a.tmps.size)(t:TypeId)(x y:Operand)(ho:o.op= .store t x y){st':St}
  (hs:((T t).bind fun i=>(st.evC x).bind fun c=>(st.evU y).bind fun u=>(st.store i c u).map fun s=>s.put o.dst (.tup []))=some st'):StepOk P M Z w0 o st' a w:=by
 simp only[jzd,jze]at hs;obtain⟨i,hi,c,hc,u,hu,s,hs,rfl⟩:=hs;obtain⟨info,d,ht⟩:=Be (hT t i hi);have hur:=(h.evU hu).cells;unfold St.store at hs;split at hs
 case isFalse=>cases hs
 case isTrue hlen=>
  split at hs
  case h_2=>cases hs
  case h_1 b off=>
   rw[jzd]at hs
   obtain⟨blk,hblk,hs⟩:=hs
   obtain⟨ow,how,hn,he⟩:=h.evC hc
   obtain⟨o2,ho2,hb⟩:=h.heap.rep b blk hblk
   obtain rfl:o2=ow:=Bi (ho2.symm.trans how);have hn:=hb.thaw hn;have hvl:(a.eval y).cells.size=i.size:=by have:=hur.1;simp at this;omega
   have fin: ∀(ρ':AE) (s':St),off+(a.eval y).cells.toList.length≤o2.room*o2.sz→
     Rel M Z w0 ρ' s' a (w.setCells o2.g (o2.o+off) (a.eval y).cells.toList)→StepOk P M Z w0 o (s'.put o.dst (.tup [])) a w:=fun ρ' s' hfit hr=>by
    have hrun:=Vj (P:=P) (w:=w) ht (o:=o2) (off:=off) (v:=a.eval y) hvl (fun j hj=>by
     obtain⟨⟨q,hq⟩,hf⟩:=h.heap.owns.cells b o2 how hn (off+j) (by simp at hfit;omega)
     exact⟨by rw[hq];rfl,hf⟩) hur.ones
    refine⟨.skip,undef,_,ρ',?_,.inr ⟨rfl,rfl⟩,hr.put hd ⟨[],rfl,rfl,fun j x v hx=>by simp at hx⟩⟩
    simp[execOp,ho,Instr.storeAt,Instr.sureAddr,he,hrun]
   rcases Ro hs with⟨f,cs,l0,rfl,rfl,rfl,rfl⟩|hs
   ·obtain⟨hb1,hb2,hb3,hb4⟩:=hb
    obtain⟨vs,hvs,hl⟩:=h.evU hu
    have hcl:(a.eval y).cells.toList=[a.eval y]:=by rw[hvs];rfl
    have hfit':0+(a.eval y).cells.toList.length≤o2.room*o2.sz:=by rw[hcl,hb1,hb2];simp
    refine fin ρ _ hfit' (h.write how hn hfit' fun hk=>⟨hb1,hb2,hb3,a.eval y,?_,vs,hvs,hl.1,fun j x v hx hv=>(hl.2 j x v hx hv).keep hk fun _ _=>rfl⟩)
    rw[GI h how hn hfit',hcl]
    simp
   cases blk with
   |fbox f cs=>simp[St.storeB]at hs
   |mp es=>simp[St.storeB]at hs
   |gh es=>simp[St.storeB]at hs
   |box cs=>
    simp only[St.storeB]at hs;split at hs
    case isFalse=>cases hs
    case isTrue hfit=>
     cases hs;obtain⟨hb1,hb2,hb3,hb4⟩:=hb
     have hl2:(a.eval y).cells.toList.length=u.cells.length:=hur.1.symm
     have hfit':off+(a.eval y).cells.toList.length≤o2.room*o2.sz:=by rw[hl2,hb1,hb2];omega
     refine fin ρ _ hfit' (h.write how hn hfit' fun hk=>⟨hb1,by rw[hb2,F1 _ _ _ hfit],hb3,fun j cc hcc=> ?_⟩)
     rw[GI h how hn hfit',hl2]
     rw[Df _ _ _ hfit]at hcc
     split at hcc
     ·rename_i hj
      rw[if_pos hj]
      have hj':j - off<(a.eval y).cells.toList.length:=by omega
      refine⟨_,AD hj',hur.ones _ (AZ hj'),(hur.2 _ _ _ hcc (AD hj')).keep hk fun _ _=>rfl⟩
     ·rename_i hj
      rw[if_neg hj]
      obtain⟨v,hv,h1,hr⟩:=hb4 j cc hcc
      exact⟨v,hv,h1,hr.keep hk fun _ _=>rfl⟩
   |row sz cs app=>
    simp only[St.storeB,jzd]at hs;obtain⟨p,hp,hs⟩:=hs;obtain⟨ds,s1⟩:=p;obtain⟨hrel,hds⟩:=h.shut hp hur;split at hs
    case h_2=>cases hs
    case h_1 sz' cs' app' hlk=>
     split at hs
     case isFalse=>cases hs
     case isTrue hfit=>
      cases hs;obtain⟨o3,ho3,hb'⟩:=hrel.heap.rep b _ hlk
      have ho3':ρ b=some o3:=(Eu ho3).2
      obtain rfl:o3=o2:=Bi (ho3'.symm.trans how);obtain⟨hb1,hb2,hb3,hb4,hb5⟩:=hb';have hl2:(a.eval y).cells.toList.length=ds.length:=hds.1.symm;have hfit':off+(a.eval y).cells.toList.length≤o3.room*o3.sz:=by rw[hl2,hb1];simp only at hfit;omega
      refine fin _ _ hfit' (hrel.write ho3 hn hfit' fun hk=>⟨hb1,hb2,by rw[F1 _ _ _ hfit];exact hb3,hb4,fun j x hx=> ?_⟩)
      rw[GI hrel ho3 hn hfit',hl2]
      rw[Df _ _ _ hfit]at hx
      split at hx
      ·rename_i hj
       rw[if_pos hj]
       have hj':j - off<(a.eval y).cells.toList.length:=by simp only at hj;omega
       exact⟨_,AD hj',(hds.2 _ _ _ hx (AD hj')).keep hk⟩
      ·rename_i hj
       rw[if_neg hj]
       obtain⟨v,hv,hr⟩:=hb5 j x hx
       exact⟨v,hv,hr.keep hk⟩
theorem Si{α:Type}(n:Nat)(z:List α)(j:Nat)(hj:j<n*z.length):(rep n z)[j]? =z[j%z.length]? :=by
 induction n generalizing j with
 |zero=>simp at hj
 |succ n ih=>
  simp only[rep];by_cases h:j<z.length
  ·rw[List.getElem?_append_left h,AX h]
  ·rw[List.getElem?_append_right (by omega),ih (j - z.length) (by rw[Nat.succ_mul]at hj;omega)]
   rw[show j%z.length=(j - z.length)%z.length from Nat.mod_eq_sub_mod (by omega)]
theorem Hp{α:Type}(n:Nat)(z:List α):(rep n z).length=n*z.length:=by
 induction n with
 |zero=>simp[rep]
 |succ n ih=>simp[rep,ih,Nat.succ_mul];omega
theorem Rp{α:Type}{r:α→Value→Prop}{cs:List α}{vs:Array Value}(h:RepL r cs vs.toList)(n:Nat):RepL r (rep n cs) ((Array.range (n*vs.size)).map (vs[· %vs.size]!)).toList:=by
 have hl:cs.length=vs.size:=by simpa using h.1
 refine⟨by simp[Hp,hl],fun j x v hx hv=> ?_⟩
 have hj:j<n*vs.size:=by rw[←hl,←Hp];exact(jzg.1 hx).1
 have hz:0<vs.size:=by
  rcases Nat.eq_zero_or_pos vs.size with h0|h0
  ·rw[h0]at hj;omega
  ·exact h0
 rw[Si n cs j (by rw[hl];exact hj),hl]at hx
 have hm:j%vs.size<vs.size:=Nat.mod_lt _ hz;have hv':v=vs[j%vs.size]:=by
  simp[hj]at hv
  rw[←hv]
  simp[hm]
 subst hv';exact h.2 (j%vs.size) x _ hx (by simp[hm])
theorem Uv{place:Nat→Option (Nat×Nat)}: ∀{parts:List (Nat×List C)} {cs cs':List C},DE place cs parts=some cs'→cs'.length=cs.length
 |[],_,_,h=>by cases h;rfl
 |(i,v)::r,cs,cs',h=>by
  simp only[DE,jzd]at h;obtain⟨p,_,h⟩:=h;split at h
  case isFalse=>cases h
  case isTrue hc=>rw[Uv h,F1 _ _ _ (by omega)]
theorem KM(ρ:AE)(w w':World)(Z:Addr→Prop)(k sz room n:Nat)(hn:n≤room)(hm:room≤maxLen):
  RepC (BW ρ k (BB w sz room true)) w' Z (.sl k 0 n) (.slice (some ⟨w.heap.size,0,none⟩) n room):=
 ⟨_,Cd _ _ _,by simpa [BB]using hn,.inr ⟨rfl,_,_,rfl,hn,hm,.inr (by simp[BB,Own.at]),fun _=>by simp[BB]⟩⟩
theorem XX(h:Rel M Z w0 ρ st a w)(hT:A5 P T){o:Oper}(hd: ∀d,o.dst=some d→d<a.tmps.size)(t:TypeId)(len:Nat)(parts:Array (Nat×Operand))(ho:o.op= .buildSlice t len parts){st':St}
  (hs:((T t).bind fun i=>i.sl.bind fun e=>(T e).bind fun j=>(st.evUs parts.toList).bind (FG j len o.dst st))=some st'):StepOk P M Z w0 o st' a w:=by
 simp only[jzd]at hs;obtain⟨i,hi,e,he,j,hj,l,hl,hs⟩:=hs;unfold FG at hs;split at hs
 case isFalse=>cases hs
 case isTrue hsmall=>
  simp only[jzd]at hs;obtain⟨cs,hcs,hs⟩:=hs;obtain⟨info,d,ht⟩:=Be (hT t i hi);obtain⟨infe,de,hte⟩:=Be (hT e j hj);obtain⟨z,hz,hzc⟩:=hte.zero;obtain⟨hl1,hl2⟩:=Ns h hl;have hzr:RepL (RepC ρ w Z) j.zero z.cells.toList:=Ep hzc;have hzs:z.cells.size=j.size:=by have:=hzr.1;simp at this;rw[←this,hte.zlen]
  have hzero:=Rp hzr len;rw[hzs]at hzero;obtain⟨vs,hv,hr⟩:=KF hzero hl1 hl2 hcs;have hcl:vs.toList.length=len*j.size:=by
   rw[←hr.1,Uv hcs,Hp,hte.zlen]
  have hroom:len≤maxLen:=J4 hsmall.2;have hrunE:(execOp a.eval o).run P w= .ok (.value (.slice (some ⟨w.heap.size,0,none⟩) len len)) (w.alloc (.cells vs e)):=by
   have hev:(parts.map fun(i,x)=>(i,a.eval x)).toList=parts.toList.map fun p=>(p.1,a.eval p.2):=QX a parts
   by_cases h0:len*j.size=0
   ·have hf:Instr.fill (fun i=>some (i*j.size,j.size)) #[] (parts.map fun(i,x)=>(i,a.eval x)).toList=some vs:=by
     rw[hev,←hv]
     simp[h0,Array.range_zero',F3]
     rfl
    rw[hev]at hf
    simp[execOp,ho,Instr.buildSlice,run_underlying (ht.slice he),hte.sizeOf,h0,newRow,hf,Array.range_zero']
   ·have hf:Instr.fill (fun i=>some (i*infe.size,infe.size)) ((Array.range (len*infe.size)).map (z.cells[· %z.cells.size]!)) (parts.map fun(i,x)=>(i,a.eval x)).toList=some vs:=by
     rw[hev,←hv,hte.size,hzs]
     rfl
    have:=run_buildSlice (P:=P) w t e len (parts.map fun(i,x)=>(i,a.eval x)) vs infe z (ht.slice he) hte.inf hz (by rw[hte.size];omega) (by rw[hte.size];exact h0) hf
    simp only[execOp,ho,Sem.run_bind,this,Result.andThen_ok,Sem.run_pure]
  split at hs
  ·rename_i hbox
   obtain⟨k,hk,rfl⟩:=F8 hs
   have hcsl:cs.length=len:=by have:=hr.1;rw[hcl,hbox.1]at this;omega
   have hrow:=h.newBox k e hr (by rw[hcsl];exact hroom)
   rw[Array.toArray_toList]at hrow
   refine .at hk hd (x:= .slice (some ⟨w.heap.size,0,none⟩) len len) hrunE hrow ⟨_,Cd _ _ _,by simp[BB,hcsl],.inr ⟨rfl,_,_,rfl,AO _,hroom,.inr (by simp[BB,Own.at]),fun hh=>by simp[BB]at hh⟩⟩
  ·rw[jzd]at hs
   obtain⟨p,hp,hs⟩:=hs
   obtain⟨k,hk,rfl⟩:=F8 hs
   obtain⟨ds,s1⟩:=p
   obtain⟨hrel,hds⟩:=h.shut hp hr
   have hrow:=hrel.newRow (Ext.refl w) rfl k [] e true hds (by simpa using hcl) hroom
   simp only[List.append_nil,Array.toArray_toList]at hrow;refine .at hk hd (x:= .slice (some ⟨w.heap.size,0,none⟩) len len) hrunE hrow (KM _ w (w.alloc (.cells vs e)) Z k _ _ _ (AO _) hroom)
theorem jbg(h:Rel M Z w0 ρ st a w)(hT:A5 P T){o:Oper}(hd: ∀d,o.dst=some d→d<a.tmps.size)(t:TypeId)(x y:Operand)(ho:o.op= .makeSlice t x y){st':St}
  (hs:((T t).bind fun i=>i.sl.bind fun e=>(T e).bind fun j=>(st.evI x).bind fun l=>(st.evI y).bind fun c=>FC j o.dst st l.2 c.2)=some st'):StepOk P M Z w0 o st' a w:=by
 simp only[jzd]at hs;obtain⟨i,hi,e,he,j,hj,⟨kl,l⟩,hl,⟨kc,c⟩,hc,hs⟩:=hs;unfold FC at hs;split at hs
 case isFalse=>cases hs
 case isTrue hcond=>
  obtain⟨h0,hlc,hby,hbig⟩:=hcond
  unfold CP at hby hbig;simp only at h0 hlc hby hbig;rw[jzd]at hs;obtain⟨ds,hds,hs⟩:=hs;obtain⟨k,hk,rfl⟩:=F8 hs;obtain⟨info,d,ht⟩:=Be (hT t i hi);obtain⟨infe,de,hte⟩:=Be (hT e j hj);obtain⟨z,hz,hzc⟩:=hte.zero;have hzr:RepL (RepC ρ w Z) j.zero z.cells.toList:=Ep hzc;have hzs:z.cells.size=j.size:=by have:=hzr.1;simp at this;rw[←this,hte.zlen]
  obtain⟨hm1,hm2⟩:=Dl hds
  have hzd: ∀(ci:C) (v:Value) (x:D),HC ci v=true→st.cD ci=some x→RepD w (Ar ρ Z) x v:=by
   intro ci v x hz hx;unfold HC at hz;split at hz<;>simp at hz
   ·obtain⟨rfl,rfl⟩:=hz;simp[St.cD,toD]at hx;subst hx;exact .int _ _
   ·subst hz;simp[St.cD,toD]at hx;subst hx;exact .bool _
   ·obtain⟨rfl,rfl⟩:=hz;simp[St.cD,toD]at hx;subst hx;exact .str _
   ·simp[St.cD,toD]at hx;subst hx;exact .snil
   ·simp[St.cD,toD]at hx;subst hx;exact .nilPtr
   ·simp[St.cD,toD]at hx;subst hx;exact .nilFn
   ·simp[St.cD,toD]at hx;subst hx;exact .lit _ rfl
   ·simp[St.cD,toD]at hx;subst hx;exact .lit _ rfl
  have zc: ∀{cs:List C} {vs:List Value},E5 cs vs=true→ ∀(q:Nat) (ci:C) (v:Value),cs[q]? =some ci→vs[q]? =some v→HC ci v=true:=by
   intro cs
   induction cs with
   |nil=>intro vs _ q ci v hq;simp at hq
   |cons c r ih=>
    intro vs hz q ci v hq hv;cases vs with
    |nil=>simp at hv
    |cons v0 s=>
     simp only[E5,AR]at hz;cases q with
     |zero=>simp at hq hv;subst hq;subst hv;exact hz.1
     |succ q=>exact ih hz.2 q ci v (by simpa using hq) (by simpa using hv)
  have hdz:RepL (RepD w (Ar ρ Z)) ds z.cells.toList:=by
   refine⟨hm1.trans hzr.1,fun q x v hx hv=> ?_⟩
   have hq:q<j.zero.length:=by rw[←hm1];exact(jzg.1 hx).1
   obtain⟨y',hy',hf⟩:=hm2 q _ (AD hq)
   rw[hx]at hy'
   cases hy'
   exact hzd _ v _ (zc hzc q _ v (AD hq) hv) hf
  have hrepn: ∀n:Nat,RepL (RepD w (Ar ρ Z)) (rep n ds) (madeCells z.cells (n*j.size)).toList:=by
   intro n;have hdl:ds.length=j.size:=by rw[hm1,hte.zlen]
   refine⟨by simp[Hp,hdl,size_madeCells],fun q x v hx hv=> ?_⟩
   have hq:q<n*j.size:=by rw[←hdl,←Hp];exact(jzg.1 hx).1
   have hpos:0<j.size:=by
    rcases Nat.eq_zero_or_pos j.size with h0|h0
    ·rw[h0]at hq;omega
    ·exact h0
   have hmod:q%j.size<j.size:=Nat.mod_lt _ hpos;rw[Si n ds q (by rw[hdl];exact hq),hdl]at hx
   have hv':v=z.cells[q%j.size]'(by rw[hzs];exact hmod):=by
    simp[madeCells,hq,hzs]at hv
    rw[←hv]
    rw[getElem!_pos z.cells (q%j.size) (by rw[hzs];exact hmod)]
   subst hv';exact hdz.2 (q%j.size) x _ hx (by simp[hzs,hmod])
  have hrun:=run_make (P:=P) w t e infe z (ht.slice he) hte.inf hz kl kc l c h0 hlc (by rw[hte.bytes];rw[Int.mul_comm];omega) (by omega)
  rw[hte.size]at hrun
  have hsplit:(madeCells z.cells (c.toNat*j.size))=((madeCells z.cells (l.toNat*j.size)).toList++((madeCells z.cells (c.toNat*j.size)).toList.drop (l.toNat*j.size))).toArray:=by
   apply Array.ext'
   simp only[]
   apply List.ext_getElem?
   intro q;have hle:l.toNat*j.size≤c.toNat*j.size:=BC _ (by omega)
   by_cases hq:q<l.toNat*j.size
   ·rw[List.getElem?_append_left (by simpa [size_madeCells]using hq)]
    simp[madeCells,hq,show q<c.toNat*j.size by omega]
   ·rw[List.getElem?_append_right (by simpa [size_madeCells]using hq),List.getElem?_drop]
    congr 1
    simp[size_madeCells]
    omega
  have hx1:Ext w w:=Ext.refl w;have hroom:c.toNat≤maxLen:=by unfold maxLen;omega
  have hrow:=h.newRow hx1 rfl k (sz:=j.size) (room:=c.toNat) ((madeCells z.cells (c.toNat*j.size)).toList.drop (l.toNat*j.size)) e true (hrepn l.toNat) (by
   simp[size_madeCells]
   have hle:l.toNat*j.size≤c.toNat*j.size:=BC _ (by omega)
   omega) hroom
  rw[←hsplit]at hrow
  refine .at hk hd (x:= .slice (some ⟨w.heap.size,0,none⟩) l.toNat c.toNat) ?_ hrow (KM _ w (w.alloc (.cells (madeCells z.cells (c.toNat*j.size)) e)) Z k _ _ _ (by omega) hroom)
  have e1:=h.evI hl;have e2:=h.evI hc;simp only at e1 e2;simp only[execOp,ho,e1,e2,Sem.run_bind,hrun,Result.andThen_ok,Sem.run_pure]
end
end Go.Va
