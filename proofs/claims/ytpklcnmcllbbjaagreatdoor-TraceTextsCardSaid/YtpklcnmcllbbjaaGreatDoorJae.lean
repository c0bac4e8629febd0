/- a part of the proof -/
import Derived.Test.YtpklcnmcllbbjaaGreatDoorJad
import Derived.Laws.BytesString
set_option linter.all false
namespace Go.Va
open Go.RowKit
variable [Gv]
section
variable {P:Program} {T:AH} {M Z:Addr→Prop} {w0 w:World} {ρ:AE} {st:St} {a:Act}
theorem jaQ{t:TypeId}{pp rr:Array TypeId}{vv:Bool}(hu:P.underlying t=some (.func pp rr vv))(d:Nat):(Op.equalIn (d+1) t .nilFunc .nilFunc).run P w= .ok true w:=by
 simp[Op.equalIn,run_underlying hu]
theorem jfr{t:TypeId}{pp rr:Array TypeId}{vv:Bool}(hu:P.underlying t=some (.func pp rr vv))(d:Nat)(f:Fn)(c1 c2:Array Value):(Op.equalIn (d+1) t (.func f c1 c2) .nilFunc).run P w= .ok false w:=by
 simp[Op.equalIn,run_underlying hu]
theorem jiO{t e:TypeId}(hu:P.underlying t=some (.slice e))(d:Nat):(Op.equalIn (d+1) t (.slice none 0 0) (.slice none 0 0)).run P w= .ok true w:=by
 simp[Op.equalIn,run_underlying hu]
theorem jfZ{t e:TypeId}(hu:P.underlying t=some (.slice e))(d:Nat)(b:Addr)(n c:Nat):(Op.equalIn (d+1) t (.slice (some b) n c) (.slice none 0 0)).run P w= .ok false w:=by
 simp[Op.equalIn,run_underlying hu]
theorem L2{t:TypeId}{ms}(hu:P.underlying t=some (.interface ms))(d:Nat):(Op.equalIn (d+1) t .nilIface .nilIface).run P w= .ok true w:=by
 simp[Op.equalIn,run_underlying hu]
theorem jcb(h:Rel M Z w0 ρ st a w)(hT:A5 P T){o:Oper}(hd: ∀d,o.dst=some d→d<a.tmps.size)(op:BinOp)(t t':TypeId)(x y:Operand)(ho:o.op= .binOp op t x y t')(hy:Ga y=true){st':St}
  (hs:((st.evC x).bind fun c=>(FO T op t c).map fun v=>st.put o.dst v)=some st'):StepOk P M Z w0 o st' a w:=by
 have e:y= .const .nilIface:=by
  unfold Ga at hy;split at hy
  ·rfl
  ·cases hy
 subst e;simp only[jzd,jze]at hs;obtain⟨c,hc,v,hv,rfl⟩:=hs;have hx:=h.evC hc;unfold FO at hv;rw[jzd]at hv;obtain⟨i,hi,hv⟩:=hv;obtain⟨info,d,ht⟩:=Be (hT t i hi);split at hv
 ·rename_i hz
  split at hv
  case isTrue=>cases hv
  case isFalse ha=>
   obtain⟨ms,hu⟩:=ht.iface (by simpa using ha) hz
   have e1:a.eval x= .nilIface:=by
    generalize a.eval x=q at hx;cases hx;rfl
   have e2:a.eval (.const .nilIface)= .nilIface:=rfl
   have hg:(eqGuard op t x (.const .nilIface) .nilIface .nilIface).run P w= .ok () w:=by
    cases op<;>simp[eqGuard]
   have fin: ∀u:Value,(binOp op t .nilIface .nilIface).run P w= .ok u w→RepV ρ w Z v u→StepOk P M Z w0 o (st.put o.dst v) a w:=fun u hr hu=>
    .val h hd (x:=u) (by simp only[execOp,ho,e1,e2,Sem.run_bind,hg,hr,Result.andThen_ok,Sem.run_pure]) hu
   unfold GC at hv;split at hv
   ·cases hv;exact fin (.bool true) (by simp[Go.binOp,Op.equal,Op.maxDepth,L2 hu 9999]) (.bool _)
   ·cases hv;exact fin (.bool false) (by simp[Go.binOp,Op.equal,Op.maxDepth,L2 hu 9999]) (.bool _)
   ·cases hv
 ·cases hv
theorem Qu(h:Rel M Z w0 ρ st a w)(hT:A5 P T){o:Oper}(hd: ∀d,o.dst=some d→d<a.tmps.size)(op:BinOp)(t t':TypeId)(x y:Operand)(ho:o.op= .binOp op t x y t'){st':St}
  (hs:((st.ev x).bind fun p=>(st.ev y).bind fun q=>(binV T op t p q).map fun v=>st.put o.dst v)=some st'):StepOk P M Z w0 o st' a w:=by
 simp only[jzd,jze]at hs;obtain⟨p,hp,q,hq,v,hv,rfl⟩:=hs;have hx:=h.ev hp;have hy:=h.ev hq;have fin: ∀u:Value,(eqGuard op t x y (a.eval x) (a.eval y)).run P w= .ok () w→(binOp op t (a.eval x) (a.eval y)).run P w= .ok u w→RepV ρ w Z v u→StepOk P M Z w0 o (st.put o.dst v) a w:=fun u hg hr hu=>
  .val h hd (x:=u) (by simp only[execOp,ho,Sem.run_bind,hg,hr,Result.andThen_ok,Sem.run_pure]) hu
 unfold binV at hv;split at hv
 ·rename_i k m k' n
  generalize hex:a.eval x=vx at hx;generalize hey:a.eval y=vy at hy;cases hx;cases hy;have hg:(eqGuard op t x y (.int k m) (.int k' n)).run P w= .ok () w:=F7 (fun cs h=>by cases h) (fun h=>by cases h)
  split at hv
  ·obtain⟨u,hu⟩:=PN (P:=P) (w:=w) (ρ:=ρ) (Z:=Z) (k':=k') (.inl rfl) hv
   exact fin u (by rw[hex,hey];exact hg) (by rw[hex,hey];exact(hu t).1) (hu t).2
  ·obtain⟨u,hu⟩:=PN (P:=P) (w:=w) (ρ:=ρ) (Z:=Z) (k':=k') (.inr rfl) hv
   exact fin u (by rw[hex,hey];exact hg) (by rw[hex,hey];exact(hu t).1) (hu t).2
  ·rename_i n1 n2
   split at hv
   case isFalse=>cases hv
   case isTrue hk=>
    subst hk;obtain⟨u,hu⟩:=jfN (P:=P) (w:=w) (ρ:=ρ) (Z:=Z) ⟨n1,n2⟩ hv;exact fin u (by rw[hex,hey];exact hg) (by rw[hex,hey];exact(hu t).1) (hu t).2
 ·rename_i s s'
  generalize hex:a.eval x=vx at hx;generalize hey:a.eval y=vy at hy;cases hx;cases hy;obtain⟨u,hu⟩:=jcY (P:=P) (w:=w) (ρ:=ρ) (Z:=Z) hv;exact fin u (by rw[hex,hey];exact F7 (fun cs h=>by cases h) (fun h=>by cases h)) (by rw[hex,hey];exact(hu t).1) (hu t).2
 ·simp only[jzd]at hv;obtain⟨i,hi,b,hb,hv⟩:=hv;obtain⟨info,d,ht⟩:=Be (hT t i hi);have key:(eqGuard op t x y (a.eval x) (a.eval y)).run P w= .ok () w∧(Op.equalIn 10000 t (a.eval x) (a.eval y)).run P w= .ok b w∧
    (op= .eql→(binOp op t (a.eval x) (a.eval y)).run P w=((Op.equalIn 10000 t (a.eval x) (a.eval y)).run P w).andThen fun b w'=> .ok (.bool b) w')∧
    (op= .neq→(binOp op t (a.eval x) (a.eval y)).run P w=((Op.equalIn 10000 t (a.eval x) (a.eval y)).run P w).andThen fun b w'=> .ok (.bool (!b)) w'):=by
   unfold EJ at hb;split at hb
   ·rename_i c1 c2
    split at hb
    ·rename_i bb hz
     split at hb
     case isTrue=>cases hb
     case isFalse ha=>
      have ha:i.agg=false:=by simpa using ha
      have hu:=ht.bool ha hz;split at hb<;>cases hb;generalize hex:a.eval x=vx at hx;generalize hey:a.eval y=vy at hy;cases hx;cases hy;refine⟨F7 (fun cs h=>by cases h) (fun h=>by cases h),by rw[show(10000:Nat)=9999+1 from rfl,run_equalIn_bool' w _ _ _ _ hu];rfl,?_,?_⟩
      ·rintro rfl;simp[Go.binOp,Op.equal,Op.maxDepth]
      ·rintro rfl;simp[Go.binOp,Op.equal,Op.maxDepth]
    ·rename_i hz
     split at hb
     case isTrue=>cases hb
     case isFalse ha=>
      have ha:i.agg=false:=by simpa using ha
      obtain⟨pp,rr,vv,hu⟩:=ht.func ha hz
      split at hb<;>cases hb
      ·generalize hex:a.eval x=vx at hx;generalize hey:a.eval y=vy at hy;cases hx;cases hy;refine⟨F7 (fun cs h=>by cases h) (fun h=>by cases h),jaQ hu 9999,?_,?_⟩
       ·rintro rfl;simp[Go.binOp,Op.equal,Op.maxDepth]
       ·rintro rfl;simp[Go.binOp,Op.equal,Op.maxDepth]
      ·generalize hex:a.eval x=vx at hx;generalize hey:a.eval y=vy at hy;cases hx;cases hy;refine⟨F7 (fun cs h=>by cases h) (fun h=>by cases h),jfr hu 9999 _ _ _,?_,?_⟩
       ·rintro rfl;simp[Go.binOp,Op.equal,Op.maxDepth]
       ·rintro rfl;simp[Go.binOp,Op.equal,Op.maxDepth]
    ·rename_i hz
     split at hb
     case isTrue=>cases hb
     case isFalse ha=>
      have ha:i.agg=false:=by simpa using ha
      obtain⟨ee,hu⟩:=ht.list ha hz
      split at hb
      ·cases hb;have e1:a.eval x= .slice none 0 0:=hx
       have e2:a.eval y= .slice none 0 0:=hy
       rw[e1,e2]
       refine⟨F7 (fun cs h=>by cases h) (fun h=>by cases h),jiO hu 9999,?_,?_⟩
       ·rintro rfl;simp[Go.binOp,Op.equal,Op.maxDepth]
       ·rintro rfl;simp[Go.binOp,Op.equal,Op.maxDepth]
      ·rename_i n cs
       split at hb
       case isTrue=>cases hb
       case isFalse hn=>
        cases hb;have e2:a.eval y= .slice none 0 0:=hy
        obtain⟨b0,m0,c0,e1⟩: ∃b m c,a.eval x= .slice (some b) m c:=by
         generalize hex:a.eval x=vx at hx;cases hx
         ·exact⟨_,_,_,rfl⟩
         ·exact absurd rfl hn
        rw[e1,e2]
        refine⟨F7 (fun cs h=>by cases h) (fun h=>by cases h),jfZ hu 9999 _ _ _,?_,?_⟩
        ·rintro rfl;simp[Go.binOp,Op.equal,Op.maxDepth]
        ·rintro rfl;simp[Go.binOp,Op.equal,Op.maxDepth]
      ·cases hb
    ·cases hb
   ·rename_i xs ys
    split at hb
    case isFalse=>cases hb
    case isTrue hf=>
     obtain⟨vs,hvs,hlx⟩:=hx
     obtain⟨us,hus,hly⟩:=hy
     rw[hvs,hus]
     obtain⟨h1,h2⟩:=jdf (P:=P) (w:=w) ht hf hlx hly hb
     refine⟨run_eqGuard_agg w op t x y _ _ h2,h1,?_,?_⟩
     ·rintro rfl;exact run_eql_struct w t _ _
     ·rintro rfl;exact run_neq_struct w t _ _
   ·cases hb
  obtain⟨hg,he,k1,k2⟩:=key
  unfold GC at hv;split at hv<;>cases hv
  ·exact fin (.bool b) hg (by rw[k1 rfl,he];rfl) (DN _ _ _ _)
  ·exact fin (.bool !b) hg (by rw[k2 rfl,he];rfl) (DN _ _ _ _)
theorem jhW(h:Rel M Z w0 ρ st a w){o:Oper}(hd: ∀d,o.dst=some d→d<a.tmps.size)(t:TypeId)(x:Operand)(ho:o.op= .unOp .not t x){st':St}
  (hs:((st.evB x).map fun b=>st.put o.dst (vB !b))=some st'):StepOk P M Z w0 o st' a w:=by
 simp only[jze]at hs;obtain⟨b,hb,rfl⟩:=hs;exact .val h hd (x:= .bool !b) (by simp[execOp,ho,h.evB hb,Op.unary]) (DN _ _ _ _)
theorem jjK(h:Rel M Z w0 ρ st a w){o:Oper}(hd: ∀d,o.dst=some d→d<a.tmps.size)(t:TypeId)(x:Operand)(ho:o.op= .unOp .neg t x){st':St}
  (hs:((st.evI x).bind fun p=>(DJ p.1 (0 - p.2)).map fun v=>st.put o.dst v)=some st'):StepOk P M Z w0 o st' a w:=by
 simp only[jzd,jze]at hs;obtain⟨p,hp,v,hv,rfl⟩:=hs;rw[IF hv];exact .val h hd (x:= .int p.1 (p.1.wrap (0 - p.2))) (by simp[execOp,ho,h.evI hp,Op.unary,Op.intArith]) (B4 _ _ _ _ _)
theorem NX: ∀{cs:List D} {l:List Int},Iv cs=some l→cs=l.map (D.int .u8)
 |[],l,h=>by simp[Iv]at h;subst h;rfl
 |x::r,l,h=>by
  unfold Iv at h;split at h
  ·rename_i hx;cases hx
  ·rename_i n r' hx
   cases hx;obtain⟨m,hm,rfl⟩:=jze.1 h
   rw[NX hm]
   rfl
  ·cases h
theorem YU(h:Rel M Z w0 ρ st a w)(hT:A5 P T){o:Oper}(hd: ∀d,o.dst=some d→d<a.tmps.size)(s t:TypeId)(x:Operand)(ho:o.op= .convert s t x){st':St}
  (hs:((T s).bind fun j=>(T t).bind fun i=>(st.evC x).bind fun c=>(convC T st.h j i c).map fun v=>st.put o.dst v)=some st'):StepOk P M Z w0 o st' a w:=by
 simp only[jzd,jze]at hs;obtain⟨j,hj,i,hi,c,hc,v,hv,rfl⟩:=hs;obtain⟨info,d,ht⟩:=Be (hT t i hi);obtain⟨info',d',ht'⟩:=Be (hT s j hj);have hr:=h.evC hc;unfold convC at hv;split at hv
 ·rename_i kk n
  unfold LY at hv;split at hv
  case isTrue=>cases hv
  case isFalse ha=>
   split at hv<;>cases hv
   rename_i k _ hz
   have hu:=ht.intKind (by simpa using ha) hz
   generalize hex:a.eval x=vx at hr;cases hr;exact .val h hd (x:= .int k (k.wrap n)) (by simp[execOp,ho,hex,Go.convert,run_underlying ht'.und,run_underlying hu,Conv.intToInt]) (B4 _ _ _ _ _)
 ·rename_i b off n
  split at hv
  case isFalse=>cases hv
  rename_i hcnd
  obtain⟨hstr,hsl,hn⟩:=hcnd
  simp only[jzd]at hv;obtain⟨k,hk,hv⟩:=hv;split at hv
  case h_2=>cases hv
  rename_i cs app
  split at hv
  case isFalse=>cases hv
  rename_i hlen
  obtain⟨l,hl,rfl⟩:=jze.1 hv
  have hund:=Ih ht hstr;unfold Un at hsl;split at hsl
  case h_2=>cases hsl
  rename_i e he
  have hsu:=ht'.slice he;unfold S0 at hsl;split at hsl
  case h_2=>cases hsl
  rename_i te hte
  simp only[AR,Bool.not_eq_true']at hsl;obtain⟨hta,htz⟩:=hsl;obtain⟨infe,de,hte'⟩:=Be (hT e te hte);split at htz
  case h_2=>cases htz
  rename_i q hz
  have heu:=hte'.intKind hta hz;obtain⟨o2,ho2,hor⟩:=h.heap.rep b _ hk;obtain⟨q1,q2,q3,⟨q4,q4b⟩,q5⟩:=hor;obtain⟨o3,ho3,hrm,hcase⟩:=hr;have:o3=o2:=Bi (ho3.symm.trans ho2);subst this;have hcs:=NX hl;have hll:l.length=n:=by
   have:=congrArg List.length hcs
   simp[AP]at this
   omega
  rcases hcase with⟨_,_,_,hn0⟩|⟨hnil,ad,c,hev,hnc,hcm,hae,_⟩
  ·omega
  ·have hae:ad=o3.at (off*o3.sz):=hae.resolve_left (by omega)
   subst hae;have hload:(loadCells (o3.at (off*o3.sz)) n).run P w= .ok (l.map (Value.int .u8)).toArray w:=by
    have:=run_loadCells_list (P:=P) w (o3.at (off*o3.sz)) (l.map (Value.int .u8)) (fun j v hv=>by
     rw[E2,q1]
     simp only[Bf,jze]at hv;obtain⟨m,hm,rfl⟩:=hv;have hjn:j<n:=by rw[←hll];exact(jzg.1 hm).1
     have hcj:cs[off+j]? =some (.int .u8 m):=by
      have h1:(AP off n cs)[j]? =some (.int .u8 m):=by rw[hcs,Bf,hm];rfl
      simpa [AP,List.getElem?_take,hjn,List.getElem?_drop]using h1
     obtain⟨u,hu,hru⟩:=q5 _ _ hcj
     cases hru
     simpa [Own.at,Nat.add_assoc]using hu)
    simpa [hll]using this
   refine .val h hd (x:= .string (MM l)) ?_ (show RepC ρ w Z (.d (.str _)) _ from RepD.str _)
   simp[execOp,ho,hev,Go.convert,run_underlying hsu,run_underlying hund,run_underlying heu,run_bytesToString w _ _ _ _ hload,MM]
 ·cases hv
theorem Xo{cs:List C}{ds:List D}{vs:List Value}(h:cs.mapM C.pure? =some ds)(hr:RepL (RepC ρ w Z) cs vs):ds.length=vs.length∧ ∀(j:Nat) (x:D) (v:Value),ds[j]? =some x→vs[j]? =some v→RepD w (Ar ρ Z) x v:=by
 obtain⟨h1,h2⟩:=Dl h
 refine⟨by rw[←hr.1];exact h1,fun j x v hx hv=> ?_⟩
 have hjl:j<cs.length:=by rw[←h1];exact(jzg.1 hx).1
 obtain⟨y,hy,hf⟩:=h2 j cs[j] (AD hjl)
 rw[hx]at hy
 cases hy;have hc:=hr.2 j cs[j] v (AD hjl) hv
 generalize cs[j]=c at hf hc;cases c<;>simp only[C.pure?,Option.some.injEq,reduceCtorEq]at hf
 ·subst hf;exact hc
 ·subst hf;cases (show v=_ from hc);exact .snil
theorem jgc(h:Rel M Z w0 ρ st a w)(hT:A5 P T){o:Oper}(hd: ∀d,o.dst=some d→d<a.tmps.size)(t:TypeId)(x:Operand)(ho:o.op= .makeInterface t x){st':St}
  (hs:((T t).bind fun i=>(st.evU x).bind fun u=>(ifaceOf i t u).map fun c=>st.put o.dst (vC c))=some st'):StepOk P M Z w0 o st' a w:=by
 simp only[jzd,jze]at hs;obtain⟨i,hi,u,hu,c,hc,rfl⟩:=hs;obtain⟨info,d,ht⟩:=Be (hT t i hi);have hr:=h.evU hu;unfold ifaceOf at hc;split at hc
 case h_2=>cases hc
 rename_i cs
 split at hc
 case isFalse=>cases hc
 rename_i hagg
 obtain⟨ds,hds,rfl⟩:=jze.1 hc
 obtain⟨vs,hvs,hl⟩:=hr
 obtain⟨p1,p2⟩:=Xo hds hl
 refine .val h hd (x:= .iface t (.agg vs.toArray)) ?_ (show RepC ρ w Z (.d (.iface t ds)) _ from RepD.iface t ds vs p1 p2)
 have hdd:=ht.desc;cases d<;>simp only[Ct,AR,Bool.not_eq_true',Bool.false_eq_true,hagg]at hdd<;>simp[execOp,ho,hvs,Instr.makeInterface,run_underlying ht.und]<;>simp_all
theorem jiK(h:Rel M Z w0 ρ st a w)(hT:A5 P T){o:Oper}(hd: ∀d,o.dst=some d→d<a.tmps.size)(x:Operand)(xt t:TypeId)(ho:o.op= .typeAssert x xt t true){st':St}
  (hs:((T t).bind fun i=>(st.evC x).bind fun c=>(assertOf i t c).map fun v=>st.put o.dst v)=some st'):StepOk P M Z w0 o st' a w:=by
 simp only[jzd,jze]at hs;obtain⟨i,hi,c,hc,v,hv,rfl⟩:=hs;obtain⟨info,d,ht⟩:=Be (hT t i hi);obtain⟨z,hz,hzc⟩:=ht.zero;have hr:=h.evC hc;unfold assertOf at hv;split at hv
 case h_2=>cases hv
 rename_i t' cs
 split at hv
 case isFalse=>cases hv
 rename_i hcnd
 obtain⟨hagg,hsz⟩:=hcnd
 generalize hex:a.eval x=vx at hr;cases hr;rename_i vs hl h3;have hdd:=ht.desc;split at hv
 ·rename_i e
  subst e;cases hv;refine .val h hd (x:= .tuple #[.agg vs.toArray,.bool true]) ?_ ⟨[_,_],rfl,rfl,fun j y v hy hv=> ?_⟩
  ·cases d<;>simp only[Ct,AR,Bool.not_eq_true',Bool.false_eq_true,hagg]at hdd<;>simp[execOp,ho,hex,Instr.typeAssert,run_underlying ht.und]<;>simp_all
  ·match j,hy,hv with
   |0,hy,hv=>
    cases hy;cases hv
    refine⟨vs,rfl,by simpa using hl,fun j c v hc hv=> ?_⟩
    simp only[Bf,jze]at hc;obtain⟨y,hy,rfl⟩:=hc;exact h3 j y v hy hv
   |1,hy,hv=>cases hy;cases hv;exact .bool _
 ·rename_i e
  cases hv;have hzz: ∃zs:List Value,z= .agg zs.toArray:=by
   have hzl:z.cells.size=i.size:=by
    have:=(Ep (ρ:=ρ) (w:=w) (Z:=Z) hzc).1
    rw[ht.zlen]at this
    simpa using this.symm
   cases z with
   |agg cs=>exact⟨cs.toList,by simp⟩
   |_=>simp[Value.cells]at hzl;omega
  obtain⟨zs,rfl⟩:=hzz
  refine .val h hd (x:= .tuple #[.agg zs.toArray,.bool false]) ?_ ⟨[_,_],rfl,rfl,fun j y v hy hv=> ?_⟩
  ·cases d<;>simp only[Ct,AR,Bool.not_eq_true',Bool.false_eq_true,hagg]at hdd<;>simp[execOp,ho,hex,Instr.typeAssert,run_underlying ht.und,zeroValue,typeInfo,ht.inf,hz,e]<;>simp_all
  ·match j,hy,hv with
   |0,hy,hv=>
    cases hy;cases hv
    exact⟨zs,rfl,by simpa [Value.cells]using Ep (ρ:=ρ) (w:=w) (Z:=Z) hzc⟩
   |1,hy,hv=>cases hy;cases hv;exact .bool _
theorem U4(h:Rel M Z w0 ρ st a w){o:Oper}(hd: ∀d,o.dst=some d→d<a.tmps.size)(x:Operand)(ho:o.op= .nilCheck x){st':St}
  (hs:((st.evC x).bind fun c=>(nilChk c).map fun c=>st.put o.dst (vC c))=some st'):StepOk P M Z w0 o st' a w:=by
 simp only[jzd,jze]at hs;obtain⟨c,hc,c',hc',rfl⟩:=hs;have hr:=h.evC hc;unfold nilChk at hc';split at hc'<;>cases hc'
 ·obtain⟨ow,how,hn,he⟩:=hr
  exact .val h hd (x:=a.eval x) (by simp[execOp,ho,he]) ⟨ow,how,hn,he⟩
 ·generalize hex:a.eval x=vx at hr;cases hr with
  |ref _ ad vs h0 h1 h2 h3=>exact .val h hd (x:= .pointer (some ad)) (by simp[execOp,ho,hex]) (RepD.ref _ ad vs h0 h1 h2 h3)
 ·generalize hex:a.eval x=vx at hr;cases hr with
  |fn _ caps vs h1 h2=>exact .val h hd (x:=a.eval x) (by simp[execOp,ho,hex]) (by rw[hex];exact RepD.fn _ _ vs h1 h2)
theorem jgk(h:Rel M Z w0 ρ st a w)(hT:A5 P T){o:Oper}(hd: ∀d,o.dst=some d→d<a.tmps.size)(t:TypeId)(x:Operand)(f:Nat)(ho:o.op= .fieldAddr t x f){st':St}
  (hs:((T t).bind fun i=>(st.evC x).bind fun c=>(i.flds[f]?).bind fun p=>(T p.2).bind fun j=>if j.size=0 then none else (fldAddr p.1 c).map fun c=>st.put o.dst (vC c))=some st'):StepOk P M Z w0 o st' a w:=by
 simp only[jzd]at hs;obtain⟨i,hi,c,hc,p,hp,j,hj,hs⟩:=hs;split at hs
 case isTrue=>cases hs
 case isFalse hsz=>
  rw[jze]at hs
  obtain⟨c',hc',rfl⟩:=hs
  obtain⟨info,d,ht⟩:=Be (hT t i hi)
  obtain⟨infj,dj,htj⟩:=Be (hT _ j hj)
  obtain⟨fs,fd,hu,hfd,hoff,hty⟩:=ht.field hp
  have hr:=h.evC hc;have hrun: ∀ad:Addr,a.eval x= .pointer (some ad)→(execOp a.eval o).run P w= .ok (.value (.pointer (some (ad.add p.1)))) w:=fun ad he=>by
   have hs:=htj.sizeOf w;rw[←hty]at hs;simp[execOp,ho,Instr.fieldAt,run_underlying hu,hfd,Instr.sureAddr,he,fieldPlace,hs,hsz,hoff]
  unfold fldAddr at hc';split at hc'<;>cases hc'
  ·rename_i b off
   obtain⟨ow,how,hn,he⟩:=hr
   refine .val h hd (hrun _ he) ⟨ow,how,hn,?_⟩;simp[Own.at,E2,Nat.add_assoc]
  ·rename_i cs
   generalize hex:a.eval x=vx at hr;cases hr with
   |ref _ ad vs h0 h1 h2 h3=>
    refine .val h hd (hrun ad hex) ?_;by_cases hlt:p.1<cs.length
    ·have hsp:=h0 (fun e=>by subst e;simp at hlt)
     rw[Il ad p.1 hsp]
     refine RepD.ref _ _ (fun q=>vs (p.1+q)) (fun _=>rfl) ?_ ?_ ?_
     all_goals
      intro q y hy;rw[List.getElem?_drop]at hy
     ·have:=h1 _ y hy;simpa [Nat.add_assoc]using this
     ·have:=h2 _ y hy;simpa [Nat.add_assoc]using this
     ·exact h3 _ y hy
    ·have:cs.drop p.1=[]:=List.drop_eq_nil_of_le (by omega)
     rw[this]
     exact RepD.ref [] _ (fun _=>undef) (fun h=>absurd rfl h) (fun q y hy=>by simp at hy) (fun q y hy=>by simp at hy) (fun q y hy=>by simp at hy)
theorem Qx(h:Rel M Z w0 ρ st a w){b sz:Nat}(hb:isRow st.h b sz=true){o:Own}(ho:ρ b=some o):o.sz=sz:=by
 unfold isRow at hb;split at hb
 ·rename_i sz' cs app hl
  obtain⟨o',ho',hr⟩:=h.heap.rep b _ hl
  obtain rfl:o'=o:=Bi (ho'.symm.trans ho);rw[hr.1]
  simpa using hb
 ·rename_i cs hl
  obtain⟨o',ho',hr⟩:=h.heap.rep b _ hl
  obtain rfl:o'=o:=Bi (ho'.symm.trans ho);rw[hr.1];exact(of_decide_eq_true hb).symm
 ·cases hb
theorem jgX(h:Rel M Z w0 ρ st a w)(hT:A5 P T){o:Oper}(hd: ∀d,o.dst=some d→d<a.tmps.size)(t:TypeId)(x y:Operand)(ho:o.op= .indexAddr t x y){st':St}
  (hs:((T t).bind fun ti=>(st.evC x).bind fun c=>(st.evI y).bind fun n=>(idxAddr T st.h ti n.2 c).map fun c=>st.put o.dst (vC c))=some st'):StepOk P M Z w0 o st' a w:=by
 simp only[jzd,jze]at hs;obtain⟨i,hi,c,hc,⟨kn,n⟩,hn,c',hc',rfl⟩:=hs;obtain⟨info,d,ht⟩:=Be (hT t i hi);have hr:=h.evC hc;have hy:=h.evI hn;simp only at hy hc';unfold idxAddr at hc';split at hc'
 ·rename_i m e harr
  rw[jzd]at hc'
  obtain⟨j,hj,hc'⟩:=hc'
  obtain⟨infj,dj,htj⟩:=Be (hT _ j hj)
  have hu:=ht.array harr;have hrun: ∀ad:Addr,a.eval x= .pointer (some ad)→0≤n∧n<m→(execOp a.eval o).run P w= .ok (.value (.pointer (some (ad.add (n.toNat*j.size))))) w:=fun ad he hb=>by
   simp[execOp,ho,Instr.indexAt,hy,asIntOf,run_underlying hu,Instr.sureAddr,he,hb.1,hb.2,htj.sizeOf]
  unfold idxArr at hc';split at hc'
  ·split at hc'<;>cases hc'
   rename_i b off hb
   obtain⟨ow,how,hnn,he⟩:=hr
   refine .val h hd (hrun _ he hb) ⟨ow,how,hnn,?_⟩;simp[Own.at,E2,Nat.add_assoc]
  ·split at hc'<;>cases hc'
   rename_i cs hb
   generalize hex:a.eval x=vx at hr;cases hr with
   |ref _ ad vs h0 h1 h2 h3=>
    refine .val h hd (hrun ad hex hb) ?_;by_cases hlt:n.toNat*j.size<cs.length
    ·have hsp:=h0 (fun e=>by subst e;simp at hlt)
     rw[Il ad _ hsp]
     refine RepD.ref _ _ (fun q=>vs (n.toNat*j.size+q)) (fun _=>rfl) ?_ ?_ ?_
     all_goals
      intro q y hy;rw[List.getElem?_drop]at hy
     ·have:=h1 _ y hy;simpa [Nat.add_assoc]using this
     ·have:=h2 _ y hy;simpa [Nat.add_assoc]using this
     ·exact h3 _ y hy
    ·have:cs.drop (n.toNat*j.size)=[]:=List.drop_eq_nil_of_le (by omega)
     rw[this]
     exact RepD.ref [] _ (fun _=>undef) (fun h=>absurd rfl h) (fun q y hy=>by simp at hy) (fun q y hy=>by simp at hy) (fun q y hy=>by simp at hy)
  ·cases hc'
 ·rename_i harr
  simp only[jzd]at hc';obtain⟨e,he,j,hj,hc'⟩:=hc';obtain⟨infj,dj,htj⟩:=Be (hT _ j hj);have hu:=ht.slice he;have hrun: ∀(ad:Addr) (len cap:Nat),a.eval x= .slice (some ad) len cap→0≤n∧n<len→(execOp a.eval o).run P w= .ok (.value (.pointer (some (ad.add (n.toNat*j.size))))) w:=fun ad len cap he hb=>by
   simp[execOp,ho,Instr.indexAt,hy,asIntOf,run_underlying hu,he,hb.1,hb.2,htj.sizeOf]
  unfold idxSl at hc';split at hc'
  ·split at hc'<;>cases hc'
   rename_i b off len hb
   obtain⟨hb0,hb1,hbr⟩:=hb
   obtain⟨ow,how,hroom,hcase⟩:=hr
   have hosz:=Qx h hbr how;rcases hcase with⟨_,_,_,h0⟩|⟨hnn,ad,cap,he2,hnc,hcm,had,_⟩
   ·omega
   ·refine .val h hd (hrun ad len cap he2 ⟨hb0,hb1⟩) ⟨ow,how,hnn,?_⟩;have hae:ad=ow.at (off*ow.sz):=by
     rcases had with h0|h1
     ·omega
     ·exact h1
    subst hae;simp only[Own.at,E2,hosz,Nat.add_mul,Nat.add_assoc]
  ·split at hc'<;>cases hc'
   rename_i len cs hb
   obtain⟨hb0,hb1,hcl⟩:=hb
   generalize hex:a.eval x=vx at hr;cases hr with
   |snil=>omega
   |slice _ _ ad cap vs h0 hnc hcm h1 h2 h3=>
    refine .val h hd (hrun ad len cap hex ⟨hb0,hb1⟩) ?_;by_cases hlt:n.toNat*j.size<cs.length
    ·have hsp:=h0 (fun e=>by subst e;simp at hlt)
     rw[Il ad _ hsp]
     refine RepD.ref _ _ (fun q=>vs (n.toNat*j.size+q)) (fun _=>rfl) ?_ ?_ ?_
     all_goals
      intro q y hy;rw[List.getElem?_drop]at hy
     ·have:=h1 _ y hy;simpa [Nat.add_assoc]using this
     ·have:=h2 _ y hy;simpa [Nat.add_assoc]using this
     ·exact h3 _ y hy
    ·have:cs.drop (n.toNat*j.size)=[]:=List.drop_eq_nil_of_le (by omega)
     rw[this]
     exact RepD.ref [] _ (fun _=>undef) (fun h=>absurd rfl h) (fun q y hy=>by simp at hy) (fun q y hy=>by simp at hy) (fun q y hy=>by simp at hy)
  ·cases hc'
theorem Kv{n:Nat}{lo hi:Option Int}{k:Nat→Nat→C}{c:C}(h:Gb n lo hi k=some c): ∃l m:Nat,c=k l m∧l+m≤n∧lo.getD 0=(l:Int)∧hi.getD n=((l+m:Nat):Int):=by
 unfold Gb at h;split at h<;>cases h;rename_i hc;obtain⟨h1,h2,h3⟩:=hc;exact⟨_,_,rfl,by omega,by omega,by omega⟩
theorem V5(isS:Bool)(n c l m:Nat)(lo hi:Option Value)(hlo:(lo=none∧l=0)∨ ∃k,lo=some (.int k l))(hhi:(hi=none∧l+m=n)∨ ∃k,hi=some (.int k ((l+m:Nat):Int)))(hc:l+m≤c):
  (Instr.sliceBounds isS n c lo hi none).run P w= .ok (l,l+m,c) w:=by
 rcases hhi with⟨rfl,rfl⟩|⟨k,rfl⟩<;>rcases hlo with⟨rfl,rfl⟩|⟨k',rfl⟩
 ·simp[Instr.sliceBounds]
 ·simp[Instr.sliceBounds,Instr.sliceBound,asIntOf]
 ·have h1: ¬(c<m):=by omega
  have h2:m≤c:=by omega
  simp[Instr.sliceBounds,Instr.sliceBound,asIntOf,h2]
 ·have h1:((l:Int)+(m:Int)≤(c:Int)):=by omega
  have h2:(0:Int)≤(l:Int)+(m:Int):=by omega
  have h3:((l:Int)+(m:Int)).toNat=l+m:=by omega
  simp[Instr.sliceBounds,Instr.sliceBound,asIntOf,h1,h2,h3]
theorem LU(h:Rel M Z w0 ρ st a w){x:Option Operand}{v:Option Int}(hv:st.evO x=some v):(x.map a.eval=none∧v=none)∨ ∃k n,x.map a.eval=some (.int k n)∧v=some n:=by
 cases x with
 |none=>cases hv;exact .inl ⟨rfl,rfl⟩
 |some x=>
  simp only[St.evO,jze]at hv;obtain⟨p,hp,rfl⟩:=hv;exact .inr ⟨p.1,p.2,by simp[h.evI hp],rfl⟩
theorem jeR(h:Rel M Z w0 ρ st a w)(hT:A5 P T){o:Oper}(hd: ∀d,o.dst=some d→d<a.tmps.size)(t:TypeId)(x:Operand)(lo hi:Option Operand)(ho:o.op= .slice t x lo hi none){st':St}
  (hs:((T t).bind fun i=>(st.evC x).bind fun c=>(st.evO lo).bind fun l=>(st.evO hi).bind fun h=>
   (match i.sl with|some e=>(T e).bind fun j=>sliceV st.h c l h j.size|none=>if Ce i then sliceS c l h else none).map fun v=>st.put o.dst (vC v))=some st'):StepOk P M Z w0 o st' a w:=by
 simp only[jzd,jze]at hs;obtain⟨i,hti,c,hc,lo',hlo,hi',hhi,c',hc',rfl⟩:=hs;obtain⟨info,d,ht⟩:=Be (hT t i hti);have hr:=h.evC hc;have bnd: ∀(isS:Bool) {n c l m:Nat},lo'.getD 0=(l:Int)→hi'.getD n=((l+m:Nat):Int)→l+m≤c→(Instr.sliceBounds isS n c (lo.map a.eval) (hi.map a.eval) none).run P w= .ok (l,l+m,c) w:=fun isS {n c l m} h1 h2 h3=>by
  refine V5 isS n c l m _ _ ?_ ?_ h3
  ·rcases LU h hlo with⟨e1,rfl⟩|⟨k,q,e1,rfl⟩
   ·exact .inl ⟨e1,by simpa using h1.symm⟩
   ·exact .inr ⟨k,by rw[e1];simp at h1;rw[h1]⟩
  ·rcases LU h hhi with⟨e1,rfl⟩|⟨k,q,e1,rfl⟩
   ·exact .inl ⟨e1,by simp at h2;omega⟩
   ·exact .inr ⟨k,by rw[e1];simp only[Option.getD_some]at h2;rw[h2]⟩
 split at hc'
 ·rename_i e he
  rw[jzd]at hc'
  obtain⟨j,hj,hc'⟩:=hc'
  obtain⟨infj,dj,htj⟩:=Be (hT _ j hj)
  have hu:=ht.slice he;have hrun: ∀{A:Option Addr} {n cap l m:Nat},a.eval x= .slice A n cap→lo'.getD 0=(l:Int)→hi'.getD n=((l+m:Nat):Int)→l+m≤cap→
    (execOp a.eval o).run P w= .ok (.value (.slice (if cap=l then A else A.map (·.add (l*j.size))) m (cap - l))) w:=fun {A n cap l m} he2 h1 h2 h3=>by
   have hb:=bnd true h1 h2 h3;simp[execOp,ho,Instr.sliceAt,Instr.slice,run_underlying hu,he2,hb,htj.sizeOf]
  unfold sliceV at hc';split at hc'
  ·split at hc'
   case isFalse=>cases hc'
   case isTrue hrow=>
    rename_i b off n
    obtain⟨l,m,rfl,hlm,e1,e2⟩:=Kv hc'
    obtain⟨ow,how,hroom,hcase⟩:=hr
    have hosz:=Qx h hrow how;rcases hcase with⟨hnn,he2,rfl,rfl⟩|⟨hnn,ad,cap,he2,hnc,hcm,had,happ⟩
    ·have hl0:l=0:=by omega
     have hm0:m=0:=by omega
     subst hl0;subst hm0;exact .val h hd (hrun he2 e1 e2 (by omega)) ⟨ow,how,by omega,.inl ⟨hnn,by simp,by omega,rfl⟩⟩
    ·refine .val h hd (hrun he2 e1 e2 (by omega)) ⟨ow,how,by omega,.inr ⟨hnn,?_⟩⟩
     by_cases hcl:cap=l
     ·refine⟨ad,cap - l,by simp[hcl],by omega,by omega,.inl (by omega),fun hh=>by have:=happ hh;omega⟩
     ·refine⟨ad.add (l*j.size),cap - l,by simp[hcl],by omega,by omega,.inr ?_,fun hh=>by have:=happ hh;omega⟩
      have hae:ad=ow.at (off*ow.sz):=by
       rcases had with h0|h1
       ·omega
       ·exact h1
      subst hae;simp only[Own.at,E2,hosz,Nat.add_mul,Nat.add_assoc]
  ·obtain⟨l,m,rfl,hlm,e1,e2⟩:=Kv hc'
   have hl0:l=0:=by omega
   have hm0:m=0:=by omega
   subst hl0;subst hm0;exact .val h hd (hrun hr e1 e2 (by omega)) (by simp[vC,RepV,RepU,RepC])
  ·split at hc'
   case isFalse=>cases hc'
   case isTrue hcl=>
    rename_i n cs
    obtain⟨l,m,rfl,hlm,e1,e2⟩:=Kv hc'
    generalize hex:a.eval x=vx at hr;cases hr with
    |snil=>
     have hl0:l=0:=by omega
     have hm0:m=0:=by omega
     subst hl0;subst hm0;refine .val h hd (hrun hex e1 e2 (by omega)) ?_
     simp only[AP,Nat.zero_mul,List.take_zero,List.drop_nil,ite_self,Option.map_none,Nat.sub_zero];exact RepD.snil
    |slice _ _ ad cap vs h0 hnc hcm h1 h2 h3=>
     refine .val h hd (hrun hex e1 e2 (by omega)) ?_
     have hempty:m=0∨j.size=0→AP (l*j.size) (m*j.size) cs=[]:=fun h=>by
      rcases h with rfl|h
      ·simp[AP]
      ·simp[AP,h]
     have mkn: ∀ad':Addr,(AP (l*j.size) (m*j.size) cs=[])→RepD w (Ar ρ Z) (.slice m (AP (l*j.size) (m*j.size) cs)) (.slice (some ad') m (cap - l)):=fun ad' he=>by
      rw[he]
      exact .slice m [] ad' _ (fun _=>undef) (fun h=>absurd rfl h) (by omega) (by omega) (fun q y hy=>by simp at hy) (fun q y hy=>by simp at hy) (fun q y hy=>by simp at hy)
     by_cases hcl2:cap=l
     ·have hm0:m=0:=by omega
      rw[if_pos hcl2]
      exact mkn ad (hempty (.inl hm0))
     ·rw[if_neg hcl2]
      simp only[Option.map_some];by_cases hz:m=0∨j.size=0
      ·exact mkn _ (hempty hz)
      ·have hcne:cs≠[]:=fun e=>by
        subst e;have h0:n*j.size=0:=hcl.symm;rcases Nat.mul_eq_zero.1 h0 with h|h<;>omega
       have hsp:=h0 hcne;rw[Il ad _ hsp];refine RepD.slice m _ _ (cap - l) (fun q=>vs (l*j.size+q)) (fun _=>rfl) (by omega) (by omega) ?_ ?_ ?_
       all_goals
        intro q y hy;rw[getElem?_cut]at hy;split at hy<;>try (cases hy;done)
       ·have:=h1 _ y hy;simpa [Nat.add_assoc]using this
       ·have:=h2 _ y hy;simpa [Nat.add_assoc]using this
       ·exact h3 _ y hy
  ·cases hc'
 ·rename_i hsl
  split at hc'
  case isFalse=>cases hc'
  case isTrue hstr=>
   have hu:=Ih ht hstr;unfold sliceS at hc';split at hc'
   ·rename_i s
    obtain⟨l,m,rfl,hlm,e1,e2⟩:=Kv hc'
    generalize hex:a.eval x=vx at hr;cases hr;have hb:=bnd false e1 e2 hlm;exact .val h hd (x:= .string (s.extract l (l+m))) (by simp[execOp,ho,Instr.sliceAt,Instr.slice,run_underlying hu,hex,hb]) (RepD.str _)
   ·cases hc'
theorem QJ{t:TypeId}{i:TI}{info:TypeInfo}{d:TypeDesc}(ht:TyOk P t i info d){off:Nat}{cs:List C}{u:U}(h:part i off cs=some u){vs:List Value}(hr:RepL (RepC ρ w Z) cs vs): ∃v,(Go.part t vs.toArray off).run P w= .ok v w∧RepU ρ w Z u v:=by
 unfold Va.part at h;split at h
 ·rename_i ha
  split at h<;>cases h
  rename_i hl
  refine⟨.agg ((vs.drop off).take i.size).toArray,?_,(vs.drop off).take i.size,rfl,?_⟩
  ·have he:vs.toArray.extract off (off+i.size)=((vs.drop off).take i.size).toArray:=by
    apply Array.ext'
    simp[List.extract]
   simp[Go.part,ht.isAgg,ha,ht.sizeOf,he]
  ·have h1:=hr.1;refine⟨by simp[AP,h1],fun q x v hx hv=> ?_⟩
   rw[getElem?_cut]at hx
   rw[List.getElem?_take,List.getElem?_drop]at hv
   split at hx<;>try (cases hx;done)
   rw[if_pos ‹_›]at hv
   exact hr.2 _ x v hx hv
 ·rename_i ha
  rw[jze]at h
  obtain⟨c,hc,rfl⟩:=h
  have hl:off<vs.length:=by rw[←hr.1];exact(jzg.1 hc).1
  exact⟨vs[off],by simp[Go.part,ht.isAgg,ha,hl],hr.2 off c _ hc (AD hl)⟩
theorem jd5(h:Rel M Z w0 ρ st a w)(hT:A5 P T){o:Oper}(hd: ∀d,o.dst=some d→d<a.tmps.size)(t:TypeId)(x:Operand)(f:Nat)(ho:o.op= .field t x f){st':St}
  (hs:((T t).bind fun i=>(st.evU x).bind fun u=>(fieldOf T i f u).map fun u=>st.put o.dst (.u u))=some st'):StepOk P M Z w0 o st' a w:=by
 simp only[jzd,jze]at hs;obtain⟨i,hi,u,hu,u',hu',rfl⟩:=hs;obtain⟨info,d,ht⟩:=Be (hT t i hi);have hr:=h.evU hu;unfold fieldOf at hu';split at hu'
 ·simp only[jzd]at hu';obtain⟨p,hp,j,hj,hpart⟩:=hu';obtain⟨infj,dj,htj⟩:=Be (hT _ j hj);obtain⟨fs,fd,hund,hfd,hoff,hty⟩:=ht.field hp;obtain⟨vs,hvs,hl⟩:=hr;obtain⟨v,hv,hrv⟩:=QJ (P:=P) htj hpart hl;rw[←hty,←hoff]at hv;exact .val h hd (x:=v) (by simp[execOp,ho,hvs,Instr.field,run_underlying hund,hfd,asAgg,hv]) hrv
 ·cases hu'
theorem jeN(h:Rel M Z w0 ρ st a w)(hT:A5 P T){o:Oper}(hd: ∀d,o.dst=some d→d<a.tmps.size)(t:TypeId)(x y:Operand)(ho:o.op= .index t x y){st':St}
  (hs:((T t).bind fun ti=>(st.evU x).bind fun u=>(st.evI y).bind fun n=>(indexOf T ti n.2 u).map fun u=>st.put o.dst (.u u))=some st'):StepOk P M Z w0 o st' a w:=by
 simp only[jzd,jze]at hs;obtain⟨i,hi,u,hu,⟨kn,n⟩,hn,u',hu',rfl⟩:=hs;obtain⟨info,d,ht⟩:=Be (hT t i hi);have hr:=h.evU hu;have hy:=h.evI hn;simp only at hy hu';unfold indexOf at hu';split at hu'
 ·simp only[jzd]at hu';obtain⟨⟨m,e⟩,hp,j,hj,hu'⟩:=hu';split at hu'
  case isFalse=>cases hu'
  case isTrue hb=>
   obtain⟨infj,dj,htj⟩:=Be (hT _ j hj)
   have hund:=ht.array hp;obtain⟨vs,hvs,hl⟩:=hr;obtain⟨v,hv,hrv⟩:=QJ (P:=P) htj hu' hl;exact .val h hd (x:=v) (by simp[execOp,ho,hvs,hy,Instr.index,asIntOf,run_underlying hund,hb.1,hb.2,htj.sizeOf,hv]) hrv
 ·rename_i s
  split at hu'
  case isFalse=>cases hu'
  case isTrue hb=>
   rw[jze]at hu'
   obtain⟨bt,hbt,rfl⟩:=hu'
   have hund:=Ih ht hb.1;generalize hex:a.eval x=vx at hr;cases hr;exact .val h hd (x:= .int .u8 bt.toNat) (by simp[execOp,ho,hex,hy,Instr.index,asIntOf,run_underlying hund,hb.2.1,hbt]) (B4 _ _ _ _ _)
 ·cases hu'
theorem VS(h:Rel M Z w0 ρ st a w){o:Oper}(hd: ∀d,o.dst=some d→d<a.tmps.size)(x:Operand)(i:Nat)(ho:o.op= .extract x i){st':St}
  (hs:((st.ev x).bind fun v=>(tupAt i v).map fun u=>st.put o.dst (.u u))=some st'):StepOk P M Z w0 o st' a w:=by
 simp only[jzd,jze]at hs;obtain⟨v,hv,u,hu,rfl⟩:=hs;have hr:=h.ev hv;unfold tupAt at hu;split at hu
 ·obtain⟨vs,hvs,hl⟩:=hr
  have hi:i<vs.length:=by rw[←hl.1];exact(jzg.1 hu).1
  exact .val h hd (x:=vs[i]) (by simp[execOp,ho,hvs,Instr.extract,hi]) (hl.2 i u _ hu (AD hi))
 ·cases hu
theorem Pt(h:Rel M Z w0 ρ st a w): ∀{xs:List Operand} {cs:List C},xs.mapM st.evC=some cs→RepL (RepC ρ w Z) cs (xs.map a.eval)
 |[],cs,hc=>by simp at hc;subst hc;exact⟨rfl,fun j x v hx=>by simp at hx⟩
 |x::xs,cs,hc=>by
  simp only[List.mapM_cons,Option.pure_def,Option.bind_eq_bind,jzd,Option.some.injEq]at hc;obtain⟨c,hc1,cs',hc2,rfl⟩:=hc;obtain⟨i1,i2⟩:=Pt h hc2;refine⟨by simpa using i1,fun j y v hy hv=> ?_⟩
  cases j with
  |zero=>simp at hy hv;subst hy;subst hv;exact h.evC hc1
  |succ j=>exact i2 j y v (by simpa using hy) (by simpa using hv)
theorem ZY(h:Rel M Z w0 ρ st a w){o:Oper}(hd: ∀d,o.dst=some d→d<a.tmps.size)(f:FuncId)(first captured:Array Operand)(ho:o.op= .makeFunc (.func f) first captured){st':St}
  (hs:(if first.toList=[] then (captured.toList.mapM st.evC).map fun cs=>st.put o.dst (.u (clo st.h f cs)) else none)=some st'):StepOk P M Z w0 o st' a w:=by
 split at hs
 case isFalse=>cases hs
 case isTrue hf=>
  simp only[jze]at hs;obtain⟨cs,hcs,rfl⟩:=hs;have hl:=Pt h hcs;have hf':first= #[]:=by apply Array.ext';simpa using hf
  have e1:captured.map a.eval=(captured.toList.map a.eval).toArray:=by apply Array.ext';simp
  refine .val h hd (x:= .func (.func f) #[] (captured.toList.map a.eval).toArray) (by simp[execOp,ho,Instr.makeFunc,hf',e1]) ?_
  unfold clo;split
  ·rename_i ds hds
   obtain⟨m1,m2⟩:=Dl hds
   refine RepD.fn f ds _ (m1.trans hl.1) fun j x v hx hv=> ?_
   have hj:j<cs.length:=by rw[←m1];exact(jzg.1 hx).1
   obtain⟨y,hy,hf⟩:=m2 j _ (AD hj)
   rw[hx]at hy
   cases hy;exact(EP h _ 4 _ v _ (hl.2 j _ v (AD hj) hv) hf).keep (Keep.mono fun ad ho=>by
    rcases ho with hz|⟨j,o,h1,h2⟩
    ·exact .inl hz
    ·exact .inr ⟨j,o,by simpa [ersd]using h1,h2⟩)
  ·exact⟨_,rfl,hl⟩
theorem jhl(h:Rel M Z w0 ρ st a w)(hT:A5 P T){o:Oper}(hd: ∀d,o.dst=some d→d<a.tmps.size)(t:TypeId)(x:Operand)(ho:o.op= .call { callee:= .builtin .cap,args:= #[x],argTypes:= #[t] }){st':St}
  (hs:((T t).bind fun i=>Ko i o.dst st x)=some st'):StepOk P M Z w0 o st' a w:=by
 rw[jzd]at hs
 obtain⟨i,hi,hs⟩:=hs
 obtain⟨info,d,ht⟩:=Be (hT t i hi)
 unfold Ko at hs;split at hs
 case isFalse=>cases hs
 rename_i hsl
 obtain⟨e,he⟩:=Option.isSome_iff_exists.1 hsl
 have hu:=ht.slice he;split at hs<;>cases hs;rename_i hc;have hv:a.eval x= .slice none 0 0:=h.evC hc;exact .val h hd (x:= .int .i64 0) (by simp[execOp,ho,resolve,invoke,builtin,Builtin.cap_,run_underlying hu,hv,goInt]) (B4 _ _ _ _ _)
theorem jj7(h:Rel M Z w0 ρ st a w)(hT:A5 P T){o:Oper}(hd: ∀d,o.dst=some d→d<a.tmps.size)(t:TypeId)(x:Operand)(ho:o.op= .call { callee:= .builtin .len,args:= #[x],argTypes:= #[t] }){st':St}
  (hs:((T t).bind fun i=>G3 i o.dst st x)=some st'):StepOk P M Z w0 o st' a w:=by
 rw[jzd]at hs
 obtain⟨i,hi,hs⟩:=hs
 obtain⟨info,d,ht⟩:=Be (hT t i hi)
 unfold G3 at hs;split at hs
 ·rename_i n e harr
  cases hs;have hu:=ht.array harr
  exact .val h hd (x:= .int .i64 n) (by simp[execOp,ho,resolve,invoke,builtin,Builtin.len_,run_underlying hu,goInt]) (B4 _ _ _ _ _)
 ·simp only[jzd,jze]at hs;obtain⟨c,hc,n,hn,rfl⟩:=hs;have hr:=h.evC hc;split at hn
  ·rename_i hsl
   obtain⟨e,he⟩:=Option.isSome_iff_exists.1 hsl
   have hu:=ht.slice he;have hv: ∃A cap,a.eval x= .slice A n cap:=by
    unfold lenC at hn;split at hn<;>cases hn
    ·exact⟨none,0,hr⟩
    ·obtain⟨ow,how,_,⟨_,h1,_,rfl⟩|⟨_,ad,cap,h1,_⟩⟩:=hr
     ·exact⟨_,_,h1⟩
     ·exact⟨_,_,h1⟩
    ·generalize a.eval x=vx at hr;cases hr with
     |snil=>exact⟨_,_,rfl⟩
     |slice=>exact⟨_,_,rfl⟩
   obtain⟨A,cap,hv⟩:=hv
   exact .val h hd (x:= .int .i64 n) (by simp[execOp,ho,resolve,invoke,builtin,Builtin.len_,run_underlying hu,hv,goInt]) (B4 _ _ _ _ _)
  ·split at hn
   case isFalse=>cases hn
   case isTrue hstr=>
    have hu:=Ih ht hstr;unfold lenS at hn;split at hn<;>cases hn;generalize hex:a.eval x=vx at hr;cases hr;exact .val h hd (x:= .int .i64 _) (by simp[execOp,ho,resolve,invoke,builtin,Builtin.len_,run_underlying hu,hex,goInt]<;>rfl) (B4 _ _ _ _ _)
end
end Go.Va
namespace Go.Va
open Go.RowKit
variable [Gv]
section
variable {P:Program} {w:World}
theorem jeL(t:TypeId):(Instr.makeMap t none).run P w= .ok (.map (some w.heap.size)) (w.alloc (.map #[] 0)):=rfl
theorem jgp{t:TypeId}(ht:P.underlying t=some .string)(s:ByteArray):(Instr.range t (.string s)).run P w= .ok (.pointer (some ⟨w.heap.size,0,none⟩)) (w.alloc (.stringIter s 0)):=by
 simp[Instr.range,run_underlying ht,newObj]
 rfl
theorem jbC{g:Nat}{s:ByteArray}{p:Nat}{t:TypeId}(h:w.heap[g]? =some (.stringIter s p))(hp: ¬p<s.size):(Instr.next (.pointer (some ⟨g,0,none⟩)) true t).run P w= .ok (.tuple #[.bool false]) w:=by
 simp[Instr.next,getObj,Sem.run,h,hp]
theorem jab{g:Nat}{s:ByteArray}{p:Nat}{t:TypeId}(h:w.heap[g]? =some (.stringIter s p))(hp:p<s.size):
  (Instr.next (.pointer (some ⟨g,0,none⟩)) true t).run P w= .ok (.tuple #[.bool true,.int .i64 p,.int .i32 (Utf8.decode s p).1]) { w with heap:=w.heap.setIfInBounds g (.stringIter s (p+(Utf8.decode s p).2)) }:=by
 simp[Instr.next,getObj,setObj,Sem.run,h,hp,goInt]
def Do:Bool→TypeDesc
 |false=> .string
 |true=> .int .i64
theorem KP{t:TypeId}{b:Bool}(ht:P.underlying t=some (Do b))(e:Bool)(n:Nat){k:Ky}(hk:k.num=b):(Instr.checkKey e (n+1) t k.v).run P w= .ok () w:=by
 cases k<;>cases hk<;>simp[Instr.checkKey,run_underlying ht,Do,Ky.v,Ky.num]
theorem Xl{k a:Ky}(h:a.num=k.num):Instr.sameNow (Do k.num) k.v a.v=some (D6 k a):=by
 cases k<;>cases a<;>first|(cases h;done)|simp[Instr.sameNow,Do,Ky.v,Ky.num,D6]
theorem M7(k:Ky): ∀(L:List MapEntry) (es:List (Ky×Int)) (i:Nat),L.map (fun e=>(e.key,e.val))=es.map Ee→es.all (fun e=>e.1.num==k.num)=true→Instr.findNow (Do k.num) k.v L i=some ((B5 k es i).map fun p=>(p.1,.int .i64 p.2))
 |[],[],i,_,_=>rfl
 |[],_::_,_,h,_=>by simp at h
 |_::_,[],_,h,_=>by simp at h
 |e::L,(a,v)::es,i,h,ha=>by
  simp only[List.map_cons,List.cons.injEq,Ee,Prod.mk.injEq]at h;simp only[List.all_cons,AR,beq_iff_eq]at ha;obtain⟨⟨h1,h2⟩,h3⟩:=h;have ih:=M7 k L es (i+1) h3 (by simpa using ha.2)
  unfold Instr.findNow B5;rw[h1,Xl ha.1];cases D6 k a with
  |true=>simp[h2]
  |false=>simpa using ih
def Gs(c:Bool)(es:List (Ky×Int))(k:Ky):Value:=if c then .tuple #[.int .i64 (((B5 k es 0).map (·.2)).getD 0),.bool (B5 k es 0).isSome] else .int .i64 (((B5 k es 0).map (·.2)).getD 0)
theorem jfw{t kt et:TypeId}{b:Bool}(ht:P.underlying t=some (.map kt et))(hk:P.underlying kt=some (Do b))(hz: ∀w,(zeroValue et).run P w= .ok (.int .i64 0) w){g:Nat}{arr:Array MapEntry}{c:Nat}{es:List (Ky×Int)}
  (hg:w.heap[g]? =some (.map arr c)) (he:arr.toList.map (fun e=>(e.key,e.val))=es.map Ee) {k:Ky} (hkb:k.num=b) (hall:es.all (fun e=>e.1.num==b)=true) (co:Bool):
  (Instr.lookup t (.map (some g)) k.v co).run P w= .ok (Gs co es k) w:=by
 subst hkb;have hf:=M7 k arr.toList es 0 he hall;have hgo:(getObj g).run P w= .ok (.map arr c) w:=by simp[getObj,Sem.run,hg]
 cases hfk:B5 k es 0 with
 |none=>
  rw[hfk]at hf
  cases co<;>simp[Instr.lookup,run_underlying ht,hgo,KP hk _ _ rfl,Instr.findKey,run_underlying hk,hf,hz,Gs,hfk]
 |some p=>
  rw[hfk]at hf
  cases co<;>simp[Instr.lookup,run_underlying ht,hgo,KP hk _ _ rfl,Instr.findKey,run_underlying hk,hf,Gs,hfk]
theorem Qo{a b:ByteArray}(h:(a==b)=true):a=b:=by
 obtain⟨x⟩:=a
 obtain⟨y⟩:=b
 have e:x=y:=by simpa using (show(x==y)=true from h)
 rw[e]
theorem Qg(a:ByteArray):(a==a)=true:=by
 obtain⟨x⟩:=a
 show(x==x)=true
 simp
theorem Tt{a b:Ky}(h:D6 a b=true):a=b:=by
 cases a<;>cases b<;>simp only[D6,Bool.false_eq_true]at h
 ·rw[Qo h]
 ·simp only[beq_iff_eq]at h;rw[h]
theorem TK{k:Ky}: ∀{es:List (Ky×Int)} {i j:Nat} {v:Int},B5 k es i=some (j,v)→i≤j∧es[j - i]? =some (k,v)
 |[],i,j,v,h=>by cases h
 |(a,u)::r,i,j,v,h=>by
  unfold B5 at h;split at h
  ·rename_i e
   cases h;have:k=a:=Tt e
   subst this;exact⟨AO _,by simp⟩
  ·obtain⟨h1,h2⟩:=TK h
   exact⟨by omega,by rw[show j - i=j - (i+1)+1 by omega];simpa using h2⟩
theorem XZ{t kt et:TypeId}{b:Bool}(ht:P.underlying t=some (.map kt et))(hk:P.underlying kt=some (Do b)){g:Nat}{arr:Array MapEntry}{c:Nat}{es:List (Ky×Int)}
  (hg:w.heap[g]? =some (.map arr c)) (he:arr.toList.map (fun e=>(e.key,e.val))=es.map Ee) {k:Ky} (hkb:k.num=b) (hall:es.all (fun e=>e.1.num==b)=true) (v:Int):
  ∃arr' c',(Instr.mapUpdate t (.map (some g)) k.v (.int .i64 v)).run P w= .ok () { w with heap:=w.heap.setIfInBounds g (.map arr' c') }∧arr'.toList.map (fun e=>(e.key,e.val))=(GY k v es).map Ee:=by
 subst hkb;have hf:=M7 k arr.toList es 0 he hall;have hgo:(getObj g).run P w= .ok (.map arr c) w:=by simp[getObj,Sem.run,hg]
 have hso: ∀o,(setObj g o).run P w= .ok () { w with heap:=w.heap.setIfInBounds g o }:=fun o=>by simp[setObj,Sem.run,hg]
 unfold GY;cases hfk:B5 k es 0 with
 |none=>
  rw[hfk]at hf
  refine⟨_,_,by simp[Instr.mapUpdate,run_underlying ht,hgo,KP hk _ _ rfl,Instr.findKey,run_underlying hk,hf,hso];rfl,?_⟩
  simp[he,Ee]
 |some p=>
  rw[hfk]at hf
  obtain⟨i,u⟩:=p
  obtain⟨_,hi⟩:=TK hfk
  simp only[Nat.sub_zero]at hi;have hL:(arr.toList.map fun e=>(e.key,e.val))[i]? =some (k.v,.int .i64 u):=by rw[he,Bf,hi];rfl
  rw[Bf,jze]at hL
  obtain⟨e,hei,hek⟩:=hL
  have hek1:e.key=k.v:=congrArg Prod.fst hek
  have hea:arr[i]? =some e:=by simpa using hei
  have hst:(Instr.keyThatStays k.v k.v).run P w= .ok k.v w:=by
   cases k<;>simp[Instr.keyThatStays,Instr.sameBits,Qg,Ky.v]
  refine⟨arr.modify i fun e=>{ e with key:=k.v,val:= .int .i64 v },c,by simp[Instr.mapUpdate,run_underlying ht,hgo,KP hk _ _ rfl,Instr.findKey,run_underlying hk,hf,hso,hea,hek1,hst],?_⟩
  refine List.ext_getElem? fun j=> ?_
  have hj:(arr.toList.map fun e=>(e.key,e.val))[j]? =(es.map Ee)[j]? :=by rw[he]
  simp only[Array.toList_modify,Bf,List.getElem?_modify,List.getElem?_set]at hj ⊢;have hil:i<es.length:=(jzg.1 hi).1;by_cases e2:i=j
  ·subst e2;simp[hei,hil,Ee]
  ·simpa [e2]using hj
theorem jcM{et:TypeId}(h:(match P.info? et with|some info=>(match info.zero with|some (.int .i64 n)=>decide (n=0)|_=>false)|none=>false)=true)(w:World):(zeroValue et).run P w= .ok (.int .i64 0) w:=by
 split at h
 ·rename_i info hi
  split at h
  ·rename_i n hz
   have:n=0:=by simpa using h
   subst this;simp[zeroValue,typeInfo,hi,hz]
  ·cases h
 ·cases h
theorem TyOk.map{t:TypeId}{i:TI}{info:TypeInfo}{d:TypeDesc}(h:TyOk P t i info d)(hm:i.mp=true): ∃kt et,P.underlying t=some (.map kt et)∧P.underlying kt=some (Do i.mpi)∧ ∀w,(zeroValue et).run P w= .ok (.int .i64 0) w:=by
 have hb:=h.mp hm;unfold LT at hb;split at hb
 ·rename_i kt et hu
  simp only[AR]at hb;obtain⟨h1,h2⟩:=hb;refine⟨kt,et,hu,?_,jcM h2⟩;split at h1
  ·rename_i hs
   rw[show i.mpi=false by simpa using h1]
   exact hs
  ·rename_i hs
   rw[show i.mpi=true from h1]
   exact hs
  ·cases h1
 ·cases hb
end
section
variable {P:Program} {T:AH} {M Z:Addr→Prop} {w0 w:World} {ρ:AE} {st:St} {a:Act}
def Fl(w:World):Own:={ g:=w.heap.size,o:=0,sz:=0,room:=0,app:=false,nil:=true,gone:=false }
theorem Rel.newObj(h:Rel M Z w0 ρ st a w)(i:Nat){x:Ob}{y:Obj}(hr:IQ x y):Rel M Z w0 (BW ρ i (Fl w)) (st.new i (.mp x)) a (w.alloc y):=by
 have hget:(w.alloc y).heap[w.heap.size]? =some y:=by
  show(w.heap.push y)[w.heap.size]? =some y
  simp
 exact h.new (Ext.alloc w _) i (fun ad hh=>by obtain⟨_,h1,_⟩:=hh;simp[Fl]at h1;omega) (fun _ j hj=>by simp[Fl]at hj) (by simp[Fl,maxLen]) ⟨rfl,⟨rfl,rfl⟩,y,hget,hr⟩ (fun _=>⟨AO _,y,hget,Ib hr⟩)
theorem Rel.setObj(h:Rel M Z w0 ρ st a w){i:Nat}{o:Own}{x x':Ob}{y':Obj}(hi:ρ i=some o)(hb:RepB ρ w Z o (.mp x))(hy':IQ x' y'):Rel M Z w0 ρ (st.blk i (.mp x')) a { w with heap:=w.heap.setIfInBounds o.g y' }:=by
 obtain⟨hroom,hmp,y,hg,hx⟩:=hb
 have hy:=Ib hx;have hn':=Ib hy';have hlt:o.g<w.heap.size:=(Array.getElem?_eq_some_iff.1 hg).1;have hget: ∀k,k≠o.g→(w.heap.setIfInBounds o.g y')[k]? =w.heap[k]? :=fun k hk=>Array.getElem?_setIfInBounds_ne (fun e=>hk e.symm)
 have hgs:(w.heap.setIfInBounds o.g y')[o.g]? =some y':=by
  rw[Array.getElem?_setIfInBounds]
  simp[hlt]
 have hcell: ∀ad:Addr,({ w with heap:=w.heap.setIfInBounds o.g y' }:World).cell? ad=w.cell? ad:=fun ad=>by
  unfold World.cell?;by_cases e:ad.block=o.g
  ·simp only[e,hgs,hg];cases y'<;>cases y<;>first|rfl|exact absurd rfl (hy _ _ _)|exact absurd rfl (hn' _ _ _)
  ·simp only[hget _ e]
 have hfro: ∀ad:Addr,({ w with heap:=w.heap.setIfInBounds o.g y' }:World).frozen? ad=w.frozen? ad:=fun ad=>by
  unfold World.frozen?;by_cases e:ad.block=o.g
  ·simp only[e,hgs,hg];cases y'<;>cases y<;>first|rfl|exact absurd rfl (hy _ _ _)|exact absurd rfl (hn' _ _ _)
  ·simp only[hget _ e]
 have hk: ∀Z1:Addr→Prop,Keep w { w with heap:=w.heap.setIfInBounds o.g y' } Z1 Z1:=fun Z1 ad v h1 h2=>⟨(hcell ad).trans h2,h1⟩
 have ht:Cf ρ ρ w { w with heap:=w.heap.setIfInBounds o.g y' } Z Dt:=fun c v hc=>by rw[C.on_id];exact hc.keep (hk _) fun _ _=>rfl
 have oth: ∀j o',ρ j=some o'→o'.mp→j≠i→o'.g≠o.g:=fun j o' hj hm hne e=>h.heap.owns.apart j i o' o hj hi hne ⟨o.g,0,none⟩ (ER hm e.symm) (ER hmp rfl)
 exact {
  fr:=⟨h.fr.os,h.fr.drawn,h.fr.tape,h.fr.output,by simpa using h.fr.size,fun ad v hm hv=>(hcell ad).trans (h.fr.cell ad v hm hv),fun ad hm ha=>(hfro ad).trans (h.fr.frz ad hm ha),fun k hk' hm=>(hget k (fun e=>by
   subst e;rcases h.mine i o ⟨o.g,0,none⟩ hi (ER hmp rfl)with h1|h1
   ·exact hm ⟨o.g,0,none⟩ rfl h1
   ·simp at h1;omega)).trans (h.fr.blk k hk' hm)⟩
  heap:=⟨⟨fun i o hi hn j hj=>by rw[hcell,hfro];exact h.heap.owns.cells i o hi hn j hj,h.heap.owns.apart,h.heap.owns.lim⟩,fun j b hb=>by
   by_cases e:j=i
   ·subst e;simp only[St.blk]at hb;rw[Bt]at hb;cases hb;exact⟨o,hi,hroom,hmp,y',hgs,hy'⟩
   ·simp only[St.blk]at hb;rw[BD e,BR e]at hb;obtain⟨o',ho',hr⟩:=h.heap.rep j b hb;have:=hr.turn ht (hk _) (fun _ _ _=>hcell _) (fun hm z _ hz=>(hget _ (oth j o' ho' hm e)).trans hz)
    rw[Blk.on_id]at this
    exact⟨o',ho',this⟩⟩
  mine:=h.mine
  out:=h.out
  mz:=h.mz
  tmps:=fun t v hv=>by
   have:=(h.tmps t v hv).turn ht
   rwa [V.on_id]at this
  defers:=h.defers
  mps:=fun j o' hj hm=>by
   by_cases e:o'.g=o.g
   ·exact⟨y',by rw[e];exact hgs,hn'⟩
   ·obtain⟨z,hz,hn⟩:=h.mps j o' hj hm
    exact⟨z,(hget _ e).trans hz,hn⟩ }
theorem C.str_some{c:C}{s:ByteArray}{v:Value}(h:c.str? =some s)(hr:RepC ρ w Z c v):v= .string s:=by
 unfold C.str? at h;split at h
 ·cases h;cases hr;rfl
 ·cases h
theorem C.key_some{c:C}{b:Bool}{s:Ky}{v:Value}(h:c.key? b=some s)(hr:RepC ρ w Z c v):v=s.v∧s.num=b:=by
 unfold C.key? at h;split at h
 ·split at h
  ·cases h
  ·rename_i hb
   cases h;cases hr
   exact⟨rfl,by simpa [Ky.num]using hb⟩
 ·split at h
  ·rename_i hb
   cases h;cases hr
   exact⟨rfl,hb.symm⟩
  ·cases h
 ·cases h
theorem R3(h:Rel M Z w0 ρ st a w){c:C}{p:Nat×List (Ky×Int)}(hm:HO st c=some p){v:Value}(hr:RepC ρ w Z c v): ∃o arr n,ρ p.1=some o∧RepB ρ w Z o (.mp (.mp p.2))∧v= .map (some o.g)∧w.heap[o.g]? =some (.map arr n)∧arr.toList.map (fun e=>(e.key,e.val))=p.2.map Ee:=by
 unfold HO at hm;split at hm
 ·rename_i i
  rw[jzd]at hm
  obtain⟨b,hb,hm⟩:=hm
  split at hm
  ·rename_i es
   cases hm;obtain⟨o,ho,hv⟩:=hr
   obtain⟨o',ho',hrb⟩:=h.heap.rep i _ hb
   obtain rfl:o'=o:=Bi (ho'.symm.trans ho);have hrb':=hrb;obtain⟨_,_,y,hy,hx⟩:=hrb;cases y<;>first|exact hx.elim|skip
   exact⟨o',_,_,ho,hrb',by simpa using hv,hy,hx⟩
  ·cases hm
 ·cases hm
theorem jgC(h:Rel M Z w0 ρ st a w){c:C}{p:Nat×ByteArray×Nat}(hm:KL st c=some p){v:Value}(hr:RepC ρ w Z c v): ∃o,ρ p.1=some o∧RepB ρ w Z o (.mp (.it p.2.1 p.2.2))∧v= .pointer (some ⟨o.g,0,none⟩)∧w.heap[o.g]? =some (.stringIter p.2.1 p.2.2):=by
 unfold KL at hm;split at hm
 ·rename_i i
  rw[jzd]at hm
  obtain⟨b,hb,hm⟩:=hm
  split at hm
  ·rename_i s q
   cases hm;obtain⟨o,ho,hv⟩:=hr
   obtain⟨o',ho',hrb⟩:=h.heap.rep i _ hb
   obtain rfl:o'=o:=Bi (ho'.symm.trans ho);have hrb':=hrb;obtain⟨_,_,y,hy,hx⟩:=hrb;cases y<;>first|exact hx.elim|skip
   obtain⟨rfl,rfl⟩:=hx
   exact⟨o',ho,hrb',by simpa using hv,hy⟩
  ·cases hm
 ·cases hm
theorem ji5(h:Rel M Z w0 ρ st a w){o:Oper}(hd: ∀d,o.dst=some d→d<a.tmps.size)(t:TypeId)(ho:o.op= .makeMap t none){st':St}
  (hs:((T t).bind fun i=>if i.mp then mk o.dst st (.mp (.mp [])) fun d=> .mp false d else none)=some st'):StepOk P M Z w0 o st' a w:=by
 rw[jzd]at hs
 obtain⟨i,hi,hs⟩:=hs
 split at hs
 case isFalse=>cases hs
 obtain⟨k,hk,rfl⟩:=F8 hs
 have hr:=h.newObj k (x:= .mp []) (y:= .map #[] 0) rfl;exact StepOk.at (P:=P) (w:=w) (o:=o) (w':=w.alloc (.map #[] 0)) hk (v:=vC (.mp false k)) (x:= .map (some w.heap.size)) hd (by simp[execOp,ho,jeL]) hr ⟨Fl w,Cd _ _ _,by simp[Fl]⟩
theorem X5(h:Rel M Z w0 ρ st a w)(hT:A5 P T){o:Oper}(hd: ∀d,o.dst=some d→d<a.tmps.size)(t:TypeId)(x:Operand)(ho:o.op= .range t x){st':St}
  (hs:((T t).bind fun i=>if Ce i=true then (st.evC x).bind fun c=>c.str?.bind fun s=>mk o.dst st (.mp (.it s 0)) fun d=> .mp true d else none)=some st'):StepOk P M Z w0 o st' a w:=by
 rw[jzd]at hs
 obtain⟨i,hi,hs⟩:=hs
 split at hs
 case isFalse=>cases hs
 rename_i hstr
 simp only[jzd]at hs;obtain⟨c,hc,s,hcs,hs⟩:=hs;obtain⟨k,hk,rfl⟩:=F8 hs;obtain⟨info,d,ht⟩:=Be (hT t i hi);have hu:=Ih ht hstr;have hv:=C.str_some hcs (h.evC hc);have hr:=h.newObj k (x:= .it s 0) (y:= .stringIter s 0) ⟨rfl,rfl⟩;exact StepOk.at (P:=P) (w:=w) (o:=o) (w':=w.alloc (.stringIter s 0)) hk (v:=vC (.mp true k)) (x:= .pointer (some ⟨w.heap.size,0,none⟩)) hd (by simp[execOp,ho,hv,jgp hu]) hr ⟨Fl w,Cd _ _ _,by simp[Fl]⟩
theorem YL{c:Bool}{es:List (Ky×Int)}{k:Ky}:RepV ρ w Z (found c es k) (Gs c es k):=by
 cases c with
 |false=>exact .int _ _
 |true=>
  refine⟨_,rfl,rfl,fun j x v hx hv=> ?_⟩
  match j with
  |0=>simp at hx hv;subst hx;subst hv;exact .int _ _
  |1=>simp at hx hv;subst hx;subst hv;exact .bool _
  |j+2=>simp at hx
theorem Y2(h:Rel M Z w0 ρ st a w)(hT:A5 P T){o:Oper}(hd: ∀d,o.dst=some d→d<a.tmps.size)(t:TypeId)(m k:Operand)(co:Bool)(ho:o.op= .lookup t m k co){st':St}
  (hs:((T t).bind fun i=>if i.mp then (st.evC m).bind fun m=>(st.evC k).bind fun k=>Hh st o.dst co i.mpi m k else none)=some st'):StepOk P M Z w0 o st' a w:=by
 rw[jzd]at hs
 obtain⟨i,hi,hs⟩:=hs
 split at hs
 case isFalse=>cases hs
 rename_i hmp
 simp only[jzd,Hh]at hs;obtain⟨c,hc,ck,hck,p,hp,s,hcs,hs⟩:=hs;split at hs
 case isFalse=>cases hs
 rename_i hall
 cases hs;obtain⟨info,d,ht⟩:=Be (hT t i hi)
 obtain⟨kt,et,h1,h2,h3⟩:=ht.map hmp
 obtain⟨hv,hkb⟩:=C.key_some hcs (h.evC hck)
 obtain⟨ow,arr,n,how,hb,hcv,hg,he⟩:=R3 h hp (h.evC hc)
 refine .val h hd ?_ YL;have:=jfw (P:=P) (w:=w) h1 h2 h3 hg he hkb hall co;simp[execOp,ho,hv,hcv,this]
theorem XE(h:Rel M Z w0 ρ st a w)(hT:A5 P T){o:Oper}(hd: ∀d,o.dst=some d→d<a.tmps.size)(t:TypeId)(m k x:Operand)(ho:o.op= .mapUpdate t m k x){st':St}
  (hs:((T t).bind fun i=>if i.mp then (st.evC m).bind fun m=>(st.evC k).bind fun k=>(st.evC x).bind fun x=>G7 st o.dst i.mpi m k x else none)=some st'):StepOk P M Z w0 o st' a w:=by
 rw[jzd]at hs
 obtain⟨i,hi,hs⟩:=hs
 split at hs
 case isFalse=>cases hs
 rename_i hmp
 simp only[jzd,G7]at hs;obtain⟨c,hc,ck,hck,cx,hcx,p,hp,s,hcs,hs⟩:=hs;split at hs
 ·rename_i z
  split at hs
  case isFalse=>cases hs
  rename_i hall
  cases hs;obtain⟨info,d,ht⟩:=Be (hT t i hi)
  obtain⟨kt,et,h1,h2,h3⟩:=ht.map hmp
  obtain⟨hv,hkb⟩:=C.key_some hcs (h.evC hck)
  have hx:a.eval x= .int .i64 z:=by
   have:=h.evC hcx
   generalize a.eval x=q at this;cases this;rfl
  obtain⟨ow,arr,n,how,hb,hcv,hg,he⟩:=R3 h hp (h.evC hc)
  obtain⟨arr',n',hrun,he'⟩:=XZ (P:=P) (w:=w) h1 h2 hg he hkb hall z
  refine⟨.skip,undef,_,ρ,by simp[execOp,ho,hv,hx,hcv,hrun],.inr ⟨rfl,rfl⟩,(h.setObj how hb (x':= .mp (GY s z p.2)) (y':= .map arr' n') he').put hd ⟨[],rfl,rfl,fun j x v hx=>by simp at hx⟩⟩
 ·cases hs
theorem jaE(h:Rel M Z w0 ρ st a w){o:Oper}(hd: ∀d,o.dst=some d→d<a.tmps.size)(x:Operand)(ho:o.op= .next x true){st':St}
  (hs:((st.evC x).bind fun c=>GN st o.dst c)=some st'):StepOk P M Z w0 o st' a w:=by
 simp only[jzd,GN,jze]at hs;obtain⟨c,hc,p,hp,rfl⟩:=hs;obtain⟨i,s,q⟩:=p;obtain⟨ow,how,hb,hcv,hg⟩:=jgC h hp (h.evC hc);simp only at how hb hg ⊢;split
 ·rename_i hlt
  have hrun:=jab (P:=P) (w:=w) (t:=o.type) hg hlt;refine⟨.value (.tuple #[.bool true,.int .i64 q,.int .i32 (Utf8.decode s q).1]),_,_,ρ,by simp[execOp,ho,hcv,hrun],.inl rfl,(h.setObj how hb (x':= .it s (q+(Utf8.decode s q).2)) (y':= .stringIter s (q+(Utf8.decode s q).2)) ⟨rfl,rfl⟩).put hd ⟨[.bool true,.int .i64 q,.int .i32 (Utf8.decode s q).1],rfl,rfl,fun j x v hx hv=> ?_⟩⟩
  match j with
  |0=>simp at hx hv;subst hx;subst hv;exact .bool _
  |1=>simp at hx hv;subst hx;subst hv;exact .int _ _
  |2=>simp at hx hv;subst hx;subst hv;exact .int _ _
  |j+3=>simp at hx
 ·rename_i hlt
  have hrun:=jbC (P:=P) (w:=w) (t:=o.type) hg hlt;refine .val h hd (x:= .tuple #[.bool false]) (by simp[execOp,ho,hcv,hrun]) ⟨[.bool false],rfl,rfl,fun j x v hx hv=> ?_⟩
  match j with
  |0=>simp at hx hv;subst hx;subst hv;exact .bool _
  |j+1=>simp at hx
end
end Go.Va
