/- a part of the proof -/
import Derived.Test.YtlgoebgnbkhmmaaGreatDoorZac
import Derived.Laws.StructEq
import Derived.ChangeKeysEq
import Derived.Laws.BytesString
set_option linter.all false
namespace Go.Va
open Go.RowKit
variable [Gv]
section
variable {P:Program} {T:AH} {M Z:Addr→Prop} {w0 w:World} {ρ:AE} {st:St} {a:Act}
theorem Ih{t:TypeId}{i:TI}{info:TypeInfo}{d:TypeDesc}(ht:TyOk P t i info d)(h:Ce i=true):P.underlying t=some .string:=by
 unfold Ce at h;split at h
 ·rename_i s h1 h2 h3 h4
  exact ht.str h2 h3 h1 h4
 ·cases h
theorem WS{k:IntKind}{n:Int}(h:HW k n):k.wrap n=n:=by
 cases k<;>simp only[HW,IntKind.min,IntKind.max,IntKind.signed,IntKind.bits,if_true,Bool.false_eq_true,if_false]at h<;>simp[IntKind.wrap,IntKind.signed,IntKind.bits]at h ⊢ <;>(try split)<;>omega
theorem IF{k:IntKind}{n:Int}{v:V}(h:DJ k n=some v):v=vI k (k.wrap n):=by
 grind[DJ,Dz,WS,IntKind.wrap,IntKind.signed,IntKind.bits]
theorem B4(ρ:AE)(w:World)(Z:Addr→Prop)(k:IntKind)(n:Int):RepV ρ w Z (vI k n) (.int k n):=RepD.int k n
theorem DN(ρ:AE)(w:World)(Z:Addr→Prop)(b:Bool):RepV ρ w Z (vB b) (.bool b):=RepD.bool b
theorem jfN{op:BinOp}{k:IntKind}{x y:Int}{v:V}(hne:op≠ .shl∧op≠ .shr)(h:binI op k x y=some v): ∃u,∀t,(binOp op t (.int k x) (.int k y)).run P w= .ok u w∧RepV ρ w Z v u:=by
 cases op<;>simp only[binI,Om,Da,RX,To]at h
 case add=>refine⟨_,fun t=>⟨by simp[Go.binOp,Op.intArith]<;>rfl,?_⟩⟩;rw[IF h];exact B4 _ _ _ _ _
 case sub=>refine⟨_,fun t=>⟨by simp[Go.binOp,Op.intArith]<;>rfl,?_⟩⟩;rw[IF h];exact B4 _ _ _ _ _
 case mul=>refine⟨_,fun t=>⟨by simp[Go.binOp,Op.intArith]<;>rfl,?_⟩⟩;rw[IF h];exact B4 _ _ _ _ _
 case quo=>
  simp only[jzd,Dz]at h;obtain⟨_,hc,h⟩:=h;split at hc
  ·rename_i hy
   refine⟨_,fun t=>⟨by simp[Go.binOp,Op.intDiv,hy]<;>rfl,?_⟩⟩;rw[IF h];exact B4 _ _ _ _ _
  ·cases hc
 case rem=>
  simp only[jze,Dz]at h;obtain⟨_,hc,rfl⟩:=h;split at hc
  ·rename_i hy
   exact⟨_,fun t=>⟨by simp[Go.binOp,Op.intDiv,hy]<;>rfl,B4 _ _ _ _ _⟩⟩
  ·cases hc
 case eql=>cases h;exact⟨.bool (decide (x=y)),fun t=>⟨by simp[Go.binOp,Op.intCmp]<;>rfl,DN _ _ _ _⟩⟩
 case neq=>cases h;exact⟨.bool (!decide (x=y)),fun t=>⟨by simp[Go.binOp,Op.intCmp]<;>rfl,DN _ _ _ _⟩⟩
 case lss=>cases h;exact⟨_,fun t=>⟨by simp[Go.binOp,Op.intCmp]<;>rfl,DN _ _ _ _⟩⟩
 case leq=>cases h;exact⟨_,fun t=>⟨by simp[Go.binOp,Op.intCmp]<;>rfl,DN _ _ _ _⟩⟩
 case gtr=>cases h;exact⟨_,fun t=>⟨by simp[Go.binOp,Op.intCmp]<;>rfl,DN _ _ _ _⟩⟩
 case geq=>cases h;exact⟨_,fun t=>⟨by simp[Go.binOp,Op.intCmp]<;>rfl,DN _ _ _ _⟩⟩
 case and=>cases h;exact⟨_,fun t=>⟨by simp[Go.binOp,Op.intBits]<;>rfl,B4 _ _ _ _ _⟩⟩
 case or=>cases h;exact⟨_,fun t=>⟨by simp[Go.binOp,Op.intBits]<;>rfl,B4 _ _ _ _ _⟩⟩
 case xor=>cases h;exact⟨_,fun t=>⟨by simp[Go.binOp,Op.intBits]<;>rfl,B4 _ _ _ _ _⟩⟩
 case andNot=>cases h;exact⟨_,fun t=>⟨by simp[Go.binOp,Op.intBits]<;>rfl,B4 _ _ _ _ _⟩⟩
 case shl=>exact absurd rfl hne.1
 case shr=>exact absurd rfl hne.2
theorem PN{op:BinOp}{k k':IntKind}{x y:Int}{v:V}(hop:op= .shl∨op= .shr)(h:shiftI op k x y=some v): ∃u,∀t,(binOp op t (.int k x) (.int k' y)).run P w= .ok u w∧RepV ρ w Z v u:=by
 rcases hop with rfl|rfl<;>simp only[shiftI,CW,Ge,jze,Dz]at h<;>obtain⟨_,hc,rfl⟩:=h<;>split at hc<;>try cases hc
 ·rename_i hy
  exact⟨_,fun t=>⟨by simp[Go.binOp,Op.shift,show ¬y<0 by omega]<;>rfl,B4 _ _ _ _ _⟩⟩
 ·rename_i hy
  exact⟨_,fun t=>⟨by simp[Go.binOp,Op.shift,show ¬y<0 by omega]<;>rfl,B4 _ _ _ _ _⟩⟩
theorem jcY{op:BinOp}{x y:ByteArray}{v:V}(h:G6 op x y=some v): ∃u,∀t,(binOp op t (.string x) (.string y)).run P w= .ok u w∧RepV ρ w Z v u:=by
 cases op<;>simp only[G6]at h<;>try cases h
 case add=>
  simp only[jze,Dz]at h;obtain⟨_,hc,rfl⟩:=h;split at hc
  ·rename_i hs
   refine⟨.string (x++y),fun t=>⟨?_,RepD.str _⟩⟩
   have: ¬(((x.size+y.size:Nat):Int)>IntKind.i64.max):=by grind[IntKind.max,IntKind.signed,IntKind.bits]
   simp_all[Go.binOp,Op.stringOp,if_false,Sem.run_pure]
  ·cases hc
 case eql=>exact⟨_,fun t=>⟨by rfl,DN _ _ _ _⟩⟩
 case neq=>exact⟨_,fun t=>⟨by rfl,DN _ _ _ _⟩⟩
theorem F7{op:BinOp}{t:TypeId}{x y:Operand}{u v:Value}(h: ∀cs,u≠ .agg cs)(h':u≠ .nilIface):(eqGuard op t x y u v).run P w= .ok () w:=by
 unfold eqGuard
 simp_all
theorem Ti{t:TypeId}{z:C}{x y:C}{vx vy:Value}{b:Bool}(d:Nat)(hk:Ej P t (some z)=true)(hx:RepC ρ w Z x vx)(hy:RepC ρ w Z y vy)(he:JM z x y=some b):
  (Op.equalIn (d+1) t vx vy).run P w= .ok b w:=by
 unfold JM at he;split at he
 ·cases hx;cases hy
  split at he<;>cases he
  rename_i hkk
  subst hkk;unfold Ej at hk;cases hu:P.underlying t with
  |none=>simp[hu]at hk
  |some dd=>
   cases dd<;>simp[hu]at hk
   simp[Op.equalIn,run_underlying hu]
   rfl
 ·cases hx;cases hy;cases he
  unfold Ej at hk;cases hu:P.underlying t with
  |none=>simp[hu]at hk
  |some dd=>
   cases dd<;>simp[hu]at hk
   simp[Op.equalIn,run_underlying hu]
   rfl
 ·cases he
theorem KG{t:TypeId}{z:C}(hk:Ej P t (some z)=true){vs:Array Value}{j:Nat}{v:Value}(hv:vs[j]? =some v):(Go.part t vs j).run P w= .ok v w:=by
 unfold Ej at hk;cases hu:P.underlying t with
 |none=>simp[hu]at hk
 |some dd=>cases dd<;>simp[hu]at hk<;>simp[Go.part,Go.isAgg,run_underlying hu,hv]
theorem TJ(d:Nat){e:TypeId}(vs us:Array Value): ∀(zs xs ys:List C) (k:Nat) (b:Bool),(∀z∈zs,Ej P e (some z)=true)→(∀(j:Nat) (x:C),xs[j]? =some x→ ∃v,vs[k+j]? =some v∧RepC ρ w Z x v)→
  (∀(j:Nat) (x:C),ys[j]? =some x→ ∃v,us[k+j]? =some v∧RepC ρ w Z x v)→Ey zs xs ys=some b→
  (Op.eqItems (d+1) e 1 vs us (List.range' k zs.length)).run P w= .ok b w
 |[],[],[],_,_,_,_,_,h=>by cases h;simp[Op.eqItems]
 |[],[],_::_,_,_,_,_,_,h=>by cases h
 |[],_::_,_,_,_,_,_,_,h=>by cases h
 |_::_,[],_,_,_,_,_,_,h=>by cases h
 |_::_,_::_,[],_,_,_,_,_,h=>by cases h
 |z::zs,x::xs,y::ys,k,b,hz,hx,hy,h=>by
  simp only[Ey,jzd,jze]at h;obtain⟨b1,h1,b2,h2,rfl⟩:=h;have hz0:=hz z (by simp)
  obtain⟨v,hv,hvr⟩:=hx 0 x rfl
  obtain⟨u,hu,hur⟩:=hy 0 y rfl
  have ih:=TJ d vs us zs xs ys (k+1) b2 (fun q hq=>hz q (by simp[hq])) (fun j q hq=>by have:=hx (j+1) q (by simpa using hq);rwa [show k+(j+1)=k+1+j by omega]at this)
   (fun j q hq=>by have:=hy (j+1) q (by simpa using hq);grind) h2
  simp only[Nat.add_zero]at hv hu;have p1:=KG (P:=P) (w:=w) hz0 hv;have p2:=KG (P:=P) (w:=w) hz0 hu;have p3:=Ti d hz0 hvr hur h1;simp only[List.length_cons,List.range'_succ,Op.eqItems,Nat.mul_one,Sem.run_bind,p1,p2,p3,Result.andThen_ok];cases b1
  ·simp
  ·simpa using ih
theorem Tg (d : Nat) (vs us : Array Value) : ∀ (zs xs ys : List C) (fs : List Field) (k : Nat) (b : Bool), fs.length = zs.length → (∀ (j : Nat) (f : Field), fs[j]? = some f → f.name ≠ "_" ∧ f.offset = k + j ∧ Ej P f.type zs[j]? = true) →
  (∀(j:Nat) (x:C),xs[j]? =some x→ ∃v,vs[k+j]? =some v∧RepC ρ w Z x v)→(∀(j:Nat) (x:C),ys[j]? =some x→ ∃v,us[k+j]? =some v∧RepC ρ w Z x v)→Ey zs xs ys=some b→
  (Op.eqFields (d+1) vs us fs).run P w= .ok b w
 |[],[],[],fs,_,_,hl,_,_,_,h=>by cases h;rw[List.eq_nil_of_length_eq_zero hl];simp[Op.eqFields]
 |[],[],_::_,_,_,_,_,_,_,_,h=>by cases h
 |[],_::_,_,_,_,_,_,_,_,_,h=>by cases h
 |_::_,[],_,_,_,_,_,_,_,_,h=>by cases h
 |_::_,_::_,[],_,_,_,_,_,_,_,h=>by cases h
 |z::zs,x::xs,y::ys,[],k,b,hl,hf,hx,hy,h=>by simp at hl
 |z::zs,x::xs,y::ys,f::fs,k,b,hl,hf,hx,hy,h=>by
  simp only[Ey,jzd,jze]at h;obtain⟨b1,h1,b2,h2,rfl⟩:=h;obtain⟨f1,f2,f3⟩:=hf 0 f rfl;have hz0:Ej P f.type (some z)=true:=by simpa using f3
  obtain⟨v,hv,hvr⟩:=hx 0 x rfl
  obtain⟨u,hu,hur⟩:=hy 0 y rfl
  have ih:=Tg d vs us zs xs ys fs (k+1) b2 (by simpa using hl) (fun j q hq=>by have:=hf (j+1) q (by simpa using hq);rw[show k+(j+1)=k+1+j by omega]at this;simpa using this)
   (fun j q hq=>by have:=hx (j+1) q (by simpa using hq);rwa [show k+(j+1)=k+1+j by omega]at this)
   (fun j q hq=>by have:=hy (j+1) q (by simpa using hq);grind) h2
  simp only[Nat.add_zero]at hv hu f2;have p1:=KG (P:=P) (w:=w) hz0 hv;have p2:=KG (P:=P) (w:=w) hz0 hu;have p3:=Ti d hz0 hvr hur h1;simp only[Op.eqFields,f1,ne_eq,not_false_eq_true,if_true,f2,Sem.run_bind,p1,p2,p3,Result.andThen_ok];cases b1
  ·simp
  ·simpa using ih
theorem Jk{xs:List C}{vs:List Value}(h:RepL (RepC ρ w Z) xs vs)(j:Nat)(x:C)(hx:xs[j]? =some x): ∃v,vs.toArray[0+j]? =some v∧RepC ρ w Z x v:=by
 have hj:j<vs.length:=by rw[←h.1];grind
 exact⟨vs[j],by simp[hj],h.2 j x _ hx (by simp)⟩
theorem jdf{t:TypeId}{i:TI}{info:TypeInfo}{d:TypeDesc}(ht:TyOk P t i info d)(hf:i.flat=true){xs ys:List C}{vs us:List Value}(hx:RepL (RepC ρ w Z) xs vs)(hy:RepL (RepC ρ w Z) ys us){b:Bool}(he:Ey i.zero xs ys=some b):
  (Op.equalIn 10000 t (.agg vs.toArray) (.agg us.toArray)).run P w= .ok b w∧P.eqGuardType P.depth t=false:=by
 have hfl:=ht.flat hf;unfold Mv at hfl;simp only[AR,Bool.not_eq_true']at hfl;obtain⟨hg,hfl⟩:=hfl;refine⟨?_,hg⟩;cases d<;>simp only[Bool.false_eq_true]at hfl
 case array n e=>
  simp only[AR,decide_eq_true_eq,jzy]at hfl;obtain⟨⟨rfl,hc⟩,hz⟩:=hfl;by_cases h0:i.zero=[]
  ·rw[h0]at he ht
   have hxs:xs=[]:=by grind[Ey]
   have hb:true=b:=by grind[Ey]
   have hu:=ht.und;subst hb;cases hi:P.info? e with
   |none=>grind[Program.cellsOf]
   |some ie=>
    rw[show(10000:Nat)=9999+1 from rfl,run_equalIn_array w 9999 _ _ hu hi]
    simp[Op.eqItems]
  ·cases hi:P.info? e with
   |none=>grind[Program.cellsOf]
   |some ie=>
    rw[show(10000:Nat)=9999+1 from rfl,run_equalIn_array w 9999 _ _ ht.und hi,hc,List.range_eq_range']
    exact TJ 9998 _ _ i.zero xs ys 0 b hz (Jk hx) (Jk hy) he
 case struct fs=>
  simp only[AR,Bool.not_eq_true',decide_eq_true_eq,jzy]at hfl;obtain⟨⟨hs,hl⟩,hall⟩:=hfl;have hfo:P.fieldsOf t=fs:=by simp[Program.fieldsOf,ht.und]
  rw[show(10000:Nat)=9999+1 from rfl,run_equalIn_struct w 9999 t _ _ (by rw[hfo];exact ht.und) hs,hfo]
  refine Tg 9998 _ _ i.zero xs ys fs.toList 0 b (by simpa using hl) (fun j f hf=> ?_) (Jk hx) (Jk hy) he
  have hm:(f,j)∈fs.toList.zipIdx:=by
   grind
  grind
end
end Go.Va
namespace Go.Va
open Go.RowKit
variable [Gv]
section
variable {P:Program} {T:AH} {M Z:Addr→Prop} {w0 w:World} {ρ:AE} {st:St} {a:Act}
theorem jaQ{t:TypeId}{pp rr:Array TypeId}{vv:Bool}(hu:P.underlying t=some (.func pp rr vv))(d:Nat):(Op.equalIn (d+1) t .nilFunc .nilFunc).run P w= .ok true w:=by
 simp[Op.equalIn,run_underlying hu]
theorem jfr{t:TypeId}{pp rr:Array TypeId}{vv:Bool}(hu:P.underlying t=some (.func pp rr vv))(d:Nat)(f:Fn)(c1 c2:Array Value):(Op.equalIn (d+1) t (.func f c1 c2) .nilFunc).run P w= .ok false w:=by
 simp[Op.equalIn,run_underlying hu]
theorem jiO{t e:TypeId}(hu:P.underlying t=some (.slice e))(d:Nat):(Op.equalIn (d+1) t (.slice none 0 0) (.slice none 0 0)).run P w= .ok true w:=by
 simp[Op.equalIn,run_underlying hu]
theorem jfZ{t e:TypeId}(hu:P.underlying t=some (.slice e))(d:Nat)(b:Addr)(n c:Nat):(Op.equalIn (d+1) t (.slice (some b) n c) (.slice none 0 0)).run P w= .ok false w:=by
 simp[Op.equalIn,run_underlying hu]
theorem L2{t:TypeId}{ms}(hu:P.underlying t=some (.interface ms))(d:Nat):(Op.equalIn (d+1) t .nilIface .nilIface).run P w= .ok true w:=by
 simp[Op.equalIn,run_underlying hu]
theorem je8{t:TypeId}{ms}(hu:P.underlying t=some (.interface ms))(d:Nat)(u:TypeId)(x:Value):(Op.equalIn (d+1) t (.iface u x) .nilIface).run P w= .ok false w:=by
 simp[Op.equalIn,run_underlying hu]
theorem jcb(h:Rel M Z w0 ρ st a w)(hT:A5 P T){o:Oper}(hd: ∀d,o.dst=some d→d<a.tmps.size)(op:BinOp)(t t':TypeId)(x y:Operand)(ho:o.op= .binOp op t x y t')(hy:Ga y=true){st':St}
  (hs:((st.evC x).bind fun c=>(FO T op t c).map fun v=>st.put o.dst v)=some st'):StepOk P M Z w0 o st' a w:=by
 have e:y= .const .nilIface:=by
  unfold Ga at hy;split at hy
  ·rfl
  ·cases hy
 subst e;simp only[jzd,jze]at hs;obtain⟨c,hc,v,hv,rfl⟩:=hs;have hx:=h.evC hc;unfold FO at hv;rw[jzd]at hv;obtain⟨i,hi,hv⟩:=hv;obtain⟨info,d,ht⟩:=Be (hT t i hi);have key: ∀(u:Value) (q:Bool),a.eval x=u→(eqGuard op t x (.const .nilIface) u .nilIface).run P w= .ok () w→i.zero=[.d (.lit .nilIface)]→(if i.agg=true then none else GC op q)=some v→(∀ms,P.underlying t=some (.interface ms)→(GC op q=some v→ ∃z,(binOp op t u .nilIface).run P w= .ok z w∧RepV ρ w Z v z))→StepOk P M Z w0 o (st.put o.dst v) a w:=fun u q e1 hg hz hv fin=>by
  split at hv
  case isTrue=>cases hv
  case isFalse ha=>
   obtain⟨ms,hu⟩:=ht.iface (by simpa using ha) hz
   have e2:a.eval (.const .nilIface)= .nilIface:=rfl
   obtain⟨z,hr,hz⟩:=fin ms hu hv
   exact .val h hd (x:=z) (by simp only[execOp,ho,e1,e2,Sem.run_bind,hg,hr,Result.andThen_ok,Sem.run_pure]) hz
 split at hv
 ·rename_i hz
  have e1:a.eval x= .nilIface:=by
   generalize a.eval x=q at hx;cases hx;rfl
  refine key .nilIface true e1 (by simp_all[eqGuard]) hz hv fun ms hu hv=> ?_
  unfold GC at hv;split at hv
  ·cases hv;exact⟨.bool true,by simp_all[Go.binOp,Op.equal,Op.maxDepth,L2],.bool _⟩
  ·cases hv;exact⟨.bool false,by simp_all[Go.binOp,Op.equal,Op.maxDepth,L2],.bool _⟩
  ·cases hv
 ·rename_i hz
  obtain⟨tu,xu,e1⟩: ∃tu xu,a.eval x= .iface tu xu:=by
   generalize a.eval x=q at hx;cases hx;simp
  refine key (.iface tu xu) false e1 (by simp_all[eqGuard]) hz hv fun ms hu hv=> ?_
  unfold GC at hv;split at hv
  ·cases hv;exact⟨.bool false,by simp_all[Go.binOp,Op.equal,Op.maxDepth,je8],.bool _⟩
  ·cases hv;exact⟨.bool true,by simp_all[Go.binOp,Op.equal,Op.maxDepth,je8],.bool _⟩
  ·cases hv
 ·cases hv
theorem Qu(h:Rel M Z w0 ρ st a w)(hT:A5 P T){o:Oper}(hd: ∀d,o.dst=some d→d<a.tmps.size)(op:BinOp)(t t':TypeId)(x y:Operand)(ho:o.op= .binOp op t x y t'){st':St}
  (hs:((st.ev x).bind fun p=>(st.ev y).bind fun q=>(binV T op t p q).map fun v=>st.put o.dst v)=some st'):StepOk P M Z w0 o st' a w:=by
 simp only[jzd,jze]at hs;obtain⟨p,hp,q,hq,v,hv,rfl⟩:=hs;have hx:=h.ev hp;have hy:=h.ev hq;have fin: ∀u:Value,(eqGuard op t x y (a.eval x) (a.eval y)).run P w= .ok () w→(binOp op t (a.eval x) (a.eval y)).run P w= .ok u w→RepV ρ w Z v u→StepOk P M Z w0 o (st.put o.dst v) a w:=fun u hg hr hu=>
  .val h hd (x:=u) (by simp only[execOp,ho,Sem.run_bind,hg,hr,Result.andThen_ok,Sem.run_pure]) hu
 unfold binV at hv;split at hv
 ·rename_i k m k' n
  generalize hex:a.eval x=vx at hx;generalize hey:a.eval y=vy at hy;cases hx;cases hy;have hg:(eqGuard op t x y (.int k m) (.int k' n)).run P w= .ok () w:=F7 (fun cs h=>by cases h) (fun h=>by cases h)
  split at hv
  ·obtain⟨u,hu⟩:=PN (P:=P) (w:=w) (ρ:=ρ) (Z:=Z) (k':=k') (.inl rfl) hv
   exact fin u (by rw[hex,hey];exact hg) (by rw[hex,hey];exact(hu t).1) (hu t).2
  ·obtain⟨u,hu⟩:=PN (P:=P) (w:=w) (ρ:=ρ) (Z:=Z) (k':=k') (.inr rfl) hv
   exact fin u (by rw[hex,hey];exact hg) (by rw[hex,hey];exact(hu t).1) (hu t).2
  ·rename_i n1 n2
   split at hv
   case isFalse=>cases hv
   case isTrue hk=>
    subst hk;obtain⟨u,hu⟩:=jfN (P:=P) (w:=w) (ρ:=ρ) (Z:=Z) ⟨n1,n2⟩ hv;exact fin u (by rw[hex,hey];exact hg) (by rw[hex,hey];exact(hu t).1) (hu t).2
 ·rename_i s s'
  generalize hex:a.eval x=vx at hx;generalize hey:a.eval y=vy at hy;cases hx;cases hy;obtain⟨u,hu⟩:=jcY (P:=P) (w:=w) (ρ:=ρ) (Z:=Z) hv;exact fin u (by rw[hex,hey];exact F7 (fun cs h=>by cases h) (fun h=>by cases h)) (by rw[hex,hey];exact(hu t).1) (hu t).2
 ·simp only[jzd]at hv;obtain⟨i,hi,b,hb,hv⟩:=hv;obtain⟨info,d,ht⟩:=Be (hT t i hi);have key:(eqGuard op t x y (a.eval x) (a.eval y)).run P w= .ok () w∧(Op.equalIn 10000 t (a.eval x) (a.eval y)).run P w= .ok b w∧
    (op= .eql→(binOp op t (a.eval x) (a.eval y)).run P w=((Op.equalIn 10000 t (a.eval x) (a.eval y)).run P w).andThen fun b w'=> .ok (.bool b) w')∧
    (op= .neq→(binOp op t (a.eval x) (a.eval y)).run P w=((Op.equalIn 10000 t (a.eval x) (a.eval y)).run P w).andThen fun b w'=> .ok (.bool (!b)) w'):=by
   unfold EJ at hb;split at hb
   ·rename_i c1 c2
    split at hb
    ·rename_i bb hz
     split at hb
     case isTrue=>cases hb
     case isFalse ha=>
      have ha:i.agg=false:=by simpa using ha
      have hu:=ht.bool ha hz;split at hb<;>cases hb;generalize hex:a.eval x=vx at hx;generalize hey:a.eval y=vy at hy;cases hx;cases hy;refine⟨F7 (fun cs h=>by cases h) (fun h=>by cases h),by rw[show(10000:Nat)=9999+1 from rfl,run_equalIn_bool' w _ _ _ _ hu];rfl,?_,?_⟩
      ·rintro rfl;simp[Go.binOp,Op.equal,Op.maxDepth]
      ·rintro rfl;simp[Go.binOp,Op.equal,Op.maxDepth]
    ·rename_i hz
     split at hb
     case isTrue=>cases hb
     case isFalse ha=>
      have ha:i.agg=false:=by simpa using ha
      obtain⟨pp,rr,vv,hu⟩:=ht.func ha hz
      split at hb<;>cases hb
      ·generalize hex:a.eval x=vx at hx;generalize hey:a.eval y=vy at hy;cases hx;cases hy;refine⟨F7 (fun cs h=>by cases h) (fun h=>by cases h),jaQ hu 9999,?_,?_⟩
       ·rintro rfl;simp[Go.binOp,Op.equal,Op.maxDepth]
       ·rintro rfl;simp[Go.binOp,Op.equal,Op.maxDepth]
      ·generalize hex:a.eval x=vx at hx;generalize hey:a.eval y=vy at hy;cases hx;cases hy;refine⟨F7 (fun cs h=>by cases h) (fun h=>by cases h),jfr hu 9999 _ _ _,?_,?_⟩
       ·rintro rfl;simp[Go.binOp,Op.equal,Op.maxDepth]
       ·rintro rfl;simp[Go.binOp,Op.equal,Op.maxDepth]
    ·rename_i hz
     split at hb
     case isTrue=>cases hb
     case isFalse ha=>
      have ha:i.agg=false:=by simpa using ha
      obtain⟨ee,hu⟩:=ht.list ha hz
      split at hb
      ·cases hb;have e1:a.eval x= .slice none 0 0:=hx
       have e2:a.eval y= .slice none 0 0:=hy
       rw[e1,e2]
       refine⟨F7 (fun cs h=>by cases h) (fun h=>by cases h),jiO hu 9999,?_,?_⟩
       ·rintro rfl;simp[Go.binOp,Op.equal,Op.maxDepth]
       ·rintro rfl;simp[Go.binOp,Op.equal,Op.maxDepth]
      ·rename_i n cs
       split at hb
       case isTrue=>cases hb
       case isFalse hn=>
        cases hb;have e2:a.eval y= .slice none 0 0:=hy
        obtain⟨b0,m0,c0,e1⟩: ∃b m c,a.eval x= .slice (some b) m c:=by
         generalize hex:a.eval x=vx at hx;cases hx
         ·exact⟨_,_,_,rfl⟩
         ·exact absurd rfl hn
        rw[e1,e2]
        refine⟨F7 (fun cs h=>by cases h) (fun h=>by cases h),jfZ hu 9999 _ _ _,?_,?_⟩
        ·rintro rfl;simp[Go.binOp,Op.equal,Op.maxDepth]
        ·rintro rfl;simp[Go.binOp,Op.equal,Op.maxDepth]
      ·cases hb
    ·cases hb
   ·rename_i xs ys
    split at hb
    case isFalse=>cases hb
    case isTrue hf=>
     obtain⟨vs,hvs,hlx⟩:=hx
     obtain⟨us,hus,hly⟩:=hy
     rw[hvs,hus]
     obtain⟨h1,h2⟩:=jdf (P:=P) (w:=w) ht hf hlx hly hb
     refine⟨run_eqGuard_agg w op t x y _ _ h2,h1,?_,?_⟩
     ·rintro rfl;exact run_eql_struct w t _ _
     ·rintro rfl;exact run_neq_struct w t _ _
   ·cases hb
  obtain⟨hg,he,k1,k2⟩:=key
  unfold GC at hv;split at hv<;>cases hv
  ·exact fin (.bool b) hg (by simp_all) (DN _ _ _ _)
  ·exact fin (.bool !b) hg (by simp_all) (DN _ _ _ _)
theorem jhW(h:Rel M Z w0 ρ st a w){o:Oper}(hd: ∀d,o.dst=some d→d<a.tmps.size)(t:TypeId)(x:Operand)(ho:o.op= .unOp .not t x){st':St}
  (hs:((st.evB x).map fun b=>st.put o.dst (vB !b))=some st'):StepOk P M Z w0 o st' a w:=by
 simp only[jze]at hs;obtain⟨b,hb,rfl⟩:=hs;exact .val h hd (x:= .bool !b) (by simp[execOp,ho,h.evB hb,Op.unary]) (DN _ _ _ _)
theorem jjK(h:Rel M Z w0 ρ st a w){o:Oper}(hd: ∀d,o.dst=some d→d<a.tmps.size)(t:TypeId)(x:Operand)(ho:o.op= .unOp .neg t x){st':St}
  (hs:((st.evI x).bind fun p=>(DJ p.1 (0 - p.2)).map fun v=>st.put o.dst v)=some st'):StepOk P M Z w0 o st' a w:=by
 simp only[jzd,jze]at hs;obtain⟨p,hp,v,hv,rfl⟩:=hs;rw[IF hv];exact .val h hd (x:= .int p.1 (p.1.wrap (0 - p.2))) (by simp[execOp,ho,h.evI hp,Op.unary,Op.intArith]) (B4 _ _ _ _ _)
theorem NX: ∀{cs:List D} {l:List Int},Iv cs=some l→cs=l.map (D.int .u8)
 |[],l,h=>by simp[Iv]at h;subst h;rfl
 |x::r,l,h=>by
  unfold Iv at h;split at h
  ·grind
  ·rename_i n r' hx
   cases hx;obtain⟨m,hm,rfl⟩:=jze.1 h
   rw[NX hm]
   rfl
  ·cases h
theorem YU(h:Rel M Z w0 ρ st a w)(hT:A5 P T){o:Oper}(hd: ∀d,o.dst=some d→d<a.tmps.size)(s t:TypeId)(x:Operand)(ho:o.op= .convert s t x){st':St}
  (hs:((T s).bind fun j=>(T t).bind fun i=>(st.evC x).bind fun c=>(convC T st.h j i c).map fun v=>st.put o.dst v)=some st'):StepOk P M Z w0 o st' a w:=by
 simp only[jzd,jze]at hs;obtain⟨j,hj,i,hi,c,hc,v,hv,rfl⟩:=hs;obtain⟨info,d,ht⟩:=Be (hT t i hi);obtain⟨info',d',ht'⟩:=Be (hT s j hj);have hr:=h.evC hc;unfold convC at hv;split at hv
 ·rename_i kk n
  unfold LY at hv;split at hv
  case isTrue=>cases hv
  case isFalse ha=>
   split at hv<;>cases hv
   rename_i k _ hz
   have hu:=ht.intKind (by simpa using ha) hz
   generalize hex:a.eval x=vx at hr;cases hr;exact .val h hd (x:= .int k (k.wrap n)) (by simp[execOp,ho,hex,Go.convert,run_underlying ht'.und,run_underlying hu,Conv.intToInt]) (B4 _ _ _ _ _)
 ·rename_i b off n
  split at hv
  case isFalse=>cases hv
  rename_i hcnd
  obtain⟨hstr,hsl,hn⟩:=hcnd
  simp only[jzd]at hv;obtain⟨k,hk,hv⟩:=hv;split at hv
  case h_2=>cases hv
  rename_i cs app
  split at hv
  case isFalse=>cases hv
  rename_i hlen
  obtain⟨l,hl,rfl⟩:=jze.1 hv
  have hund:=Ih ht hstr;unfold Un at hsl;split at hsl
  case h_2=>cases hsl
  rename_i e he
  have hsu:=ht'.slice he;unfold jcf at hsl;split at hsl
  case h_2=>cases hsl
  rename_i te hte
  simp only[AR,Bool.not_eq_true']at hsl;obtain⟨hta,htz⟩:=hsl;obtain⟨infe,de,hte'⟩:=Be (hT e te hte);split at htz
  case h_2=>cases htz
  rename_i q hz
  have heu:=hte'.intKind hta hz;obtain⟨o2,ho2,hor⟩:=h.heap.rep b _ hk;obtain⟨q1,q2,q3,⟨q4,q4b⟩,q5⟩:=hor;obtain⟨o3,ho3,hrm,hcase⟩:=hr;have:o3=o2:=Bi (ho3.symm.trans ho2);subst this;have hcs:=NX hl;have hll:l.length=n:=by
   have:=congrArg List.length hcs
   simp[AP]at this
   omega
  rcases hcase with⟨_,_,_,hn0⟩|⟨hnil,ad,c,hev,hnc,hcm,hae,_⟩
  ·omega
  ·have hae:ad=o3.at (off*o3.sz):=hae.resolve_left (by omega)
   subst hae;have hload:(loadCells (o3.at (off*o3.sz)) n).run P w= .ok (l.map (Value.int .u8)).toArray w:=by
    have:=run_loadCells_list (P:=P) w (o3.at (off*o3.sz)) (l.map (Value.int .u8)) (fun j v hv=>by
     rw[E2,q1]
     simp only[Bf,jze]at hv;obtain⟨m,hm,rfl⟩:=hv;have hjn:j<n:=by rw[←hll];exact(jzg.1 hm).1
     have hcj:cs[off+j]? =some (.int .u8 m):=by
      have h1:(AP off n cs)[j]? =some (.int .u8 m):=by rw[hcs,Bf,hm];rfl
      simpa [AP,List.getElem?_take,hjn,List.getElem?_drop]using h1
     obtain⟨u,hu,hru⟩:=q5 _ _ hcj
     cases hru
     simpa [Own.at,Nat.add_assoc]using hu)
    simpa [hll]using this
   refine .val h hd (x:= .string (MM l)) ?_ (show RepC ρ w Z (.d (.str _)) _ from RepD.str _)
   simp[execOp,ho,hev,Go.convert,run_underlying hsu,run_underlying hund,run_underlying heu,run_bytesToString w _ _ _ _ hload,MM]
 ·cases hv
theorem Xo{cs:List C}{ds:List D}{vs:List Value}(h:cs.mapM C.pure? =some ds)(hr:RepL (RepC ρ w Z) cs vs):ds.length=vs.length∧ ∀(j:Nat) (x:D) (v:Value),ds[j]? =some x→vs[j]? =some v→RepD w (Ar ρ Z) x v:=by
 obtain⟨h1,h2⟩:=Dl h
 refine⟨by rw[←hr.1];exact h1,fun j x v hx hv=> ?_⟩
 have hjl:j<cs.length:=by grind
 obtain⟨y,hy,hf⟩:=h2 j cs[j] (by simp)
 rw[hx]at hy
 cases hy;have hc:=hr.2 j cs[j] v (by simp) hv
 generalize cs[j]=c at hf hc;cases c<;>simp only[C.pure?,Option.some.injEq,reduceCtorEq]at hf
 ·subst hf;exact hc
 ·subst hf;cases (show v=_ from hc);exact .snil
theorem jgc(h:Rel M Z w0 ρ st a w)(hT:A5 P T){o:Oper}(hd: ∀d,o.dst=some d→d<a.tmps.size)(t:TypeId)(x:Operand)(ho:o.op= .makeInterface t x){st':St}
  (hs:((T t).bind fun i=>(st.evU x).bind fun u=>(ifaceOf i t u).map fun c=>st.put o.dst (vC c))=some st'):StepOk P M Z w0 o st' a w:=by
 simp only[jzd,jze]at hs;obtain⟨i,hi,u,hu,c,hc,rfl⟩:=hs;obtain⟨info,d,ht⟩:=Be (hT t i hi);have hr:=h.evU hu;unfold ifaceOf at hc;split at hc
 case h_2=>cases hc
 rename_i cs
 split at hc
 case isFalse=>cases hc
 rename_i hagg
 obtain⟨ds,hds,rfl⟩:=jze.1 hc
 obtain⟨vs,hvs,hl⟩:=hr
 obtain⟨p1,p2⟩:=Xo hds hl
 refine .val h hd (x:= .iface t (.agg vs.toArray)) ?_ (show RepC ρ w Z (.d (.iface t ds)) _ from RepD.iface t ds vs p1 p2)
 have hdd:=ht.desc;cases d<;>simp only[Ct,AR,Bool.not_eq_true',Bool.false_eq_true,hagg]at hdd<;>simp[execOp,ho,hvs,Instr.makeInterface,run_underlying ht.und]<;>simp_all
theorem jiK(h:Rel M Z w0 ρ st a w)(hT:A5 P T){o:Oper}(hd: ∀d,o.dst=some d→d<a.tmps.size)(x:Operand)(xt t:TypeId)(ho:o.op= .typeAssert x xt t true){st':St}
  (hs:((T t).bind fun i=>(st.evC x).bind fun c=>(assertOf i t c).map fun v=>st.put o.dst v)=some st'):StepOk P M Z w0 o st' a w:=by
 simp only[jzd,jze]at hs;obtain⟨i,hi,c,hc,v,hv,rfl⟩:=hs;obtain⟨info,d,ht⟩:=Be (hT t i hi);obtain⟨z,hz,hzc⟩:=ht.zero;have hr:=h.evC hc;unfold assertOf at hv;split at hv
 case h_2=>cases hv
 rename_i t' cs
 split at hv
 case isFalse=>cases hv
 rename_i hcnd
 obtain⟨hagg,hsz⟩:=hcnd
 generalize hex:a.eval x=vx at hr;cases hr;rename_i vs hl h3;have hdd:=ht.desc;split at hv
 ·rename_i e
  subst e;cases hv;refine .val h hd (x:= .tuple #[.agg vs.toArray,.bool true]) ?_ ⟨[_,_],rfl,rfl,fun j y v hy hv=> ?_⟩
  ·cases d<;>simp only[Ct,AR,Bool.not_eq_true',Bool.false_eq_true,hagg]at hdd<;>simp[execOp,ho,hex,Instr.typeAssert,run_underlying ht.und]<;>simp_all
  ·match j,hy,hv with
   |0,hy,hv=>
    cases hy;cases hv
    refine⟨vs,rfl,by simpa using hl,fun j c v hc hv=> ?_⟩
    simp only[Bf,jze]at hc;obtain⟨y,hy,rfl⟩:=hc;exact h3 j y v hy hv
   |1,hy,hv=>cases hy;cases hv;exact .bool _
 ·rename_i e
  cases hv;have hzz: ∃zs:List Value,z= .agg zs.toArray:=by
   have hzl:z.cells.size=i.size:=by
    have:=(Ep (ρ:=ρ) (w:=w) (Z:=Z) hzc).1
    rw[ht.zlen]at this
    simpa using this.symm
   cases z with
   |agg cs=>exact⟨cs.toList,by simp⟩
   |_=>simp[Value.cells]at hzl;omega
  obtain⟨zs,rfl⟩:=hzz
  refine .val h hd (x:= .tuple #[.agg zs.toArray,.bool false]) ?_ ⟨[_,_],rfl,rfl,fun j y v hy hv=> ?_⟩
  ·cases d<;>simp only[Ct,AR,Bool.not_eq_true',Bool.false_eq_true,hagg]at hdd<;>simp[execOp,ho,hex,Instr.typeAssert,run_underlying ht.und,zeroValue,typeInfo,ht.inf,hz,e]<;>simp_all
  ·match j,hy,hv with
   |0,hy,hv=>
    cases hy;cases hv
    exact⟨zs,rfl,by simpa [Value.cells]using Ep (ρ:=ρ) (w:=w) (Z:=Z) hzc⟩
   |1,hy,hv=>cases hy;cases hv;exact .bool _
theorem U4(h:Rel M Z w0 ρ st a w){o:Oper}(hd: ∀d,o.dst=some d→d<a.tmps.size)(x:Operand)(ho:o.op= .nilCheck x){st':St}
  (hs:((st.evC x).bind fun c=>(nilChk c).map fun c=>st.put o.dst (vC c))=some st'):StepOk P M Z w0 o st' a w:=by
 simp only[jzd,jze]at hs;obtain⟨c,hc,c',hc',rfl⟩:=hs;have hr:=h.evC hc;unfold nilChk at hc';split at hc'<;>cases hc'
 ·obtain⟨ow,how,hn,he⟩:=hr
  exact .val h hd (x:=a.eval x) (by simp[execOp,ho,he]) ⟨ow,how,hn,he⟩
 ·generalize hex:a.eval x=vx at hr;cases hr with
  |ref _ ad vs h0 h1 h2 h3=>exact .val h hd (x:= .pointer (some ad)) (by simp[execOp,ho,hex]) (RepD.ref _ ad vs h0 h1 h2 h3)
 ·generalize hex:a.eval x=vx at hr;cases hr with
  |fn _ caps vs h1 h2=>exact .val h hd (x:=a.eval x) (by simp[execOp,ho,hex]) (by rw[hex];exact RepD.fn _ _ vs h1 h2)
theorem jgk(h:Rel M Z w0 ρ st a w)(hT:A5 P T){o:Oper}(hd: ∀d,o.dst=some d→d<a.tmps.size)(t:TypeId)(x:Operand)(f:Nat)(ho:o.op= .fieldAddr t x f){st':St}
  (hs:((T t).bind fun i=>(st.evC x).bind fun c=>(i.flds[f]?).bind fun p=>(T p.2).bind fun j=>if j.size=0 then none else (fldAddr p.1 c).map fun c=>st.put o.dst (vC c))=some st'):StepOk P M Z w0 o st' a w:=by
 simp only[jzd]at hs;obtain⟨i,hi,c,hc,p,hp,j,hj,hs⟩:=hs;split at hs
 case isTrue=>cases hs
 case isFalse hsz=>
  rw[jze]at hs
  obtain⟨c',hc',rfl⟩:=hs
  obtain⟨info,d,ht⟩:=Be (hT t i hi)
  obtain⟨infj,dj,htj⟩:=Be (hT _ j hj)
  obtain⟨fs,fd,hu,hfd,hoff,hty⟩:=ht.field hp
  have hr:=h.evC hc;have hrun: ∀ad:Addr,a.eval x= .pointer (some ad)→(execOp a.eval o).run P w= .ok (.value (.pointer (some (ad.add p.1)))) w:=fun ad he=>by
   have hs:=htj.sizeOf w;rw[←hty]at hs;simp[execOp,ho,Instr.fieldAt,run_underlying hu,hfd,Instr.sureAddr,he,fieldPlace,hs,hsz,hoff]
  unfold fldAddr at hc';split at hc'<;>cases hc'
  ·rename_i b off
   obtain⟨ow,how,hn,he⟩:=hr
   refine .val h hd (hrun _ he) ⟨ow,how,hn,?_⟩;simp[Own.at,E2,Nat.add_assoc]
  ·rename_i cs
   generalize hex:a.eval x=vx at hr;cases hr with
   |ref _ ad vs h0 h1 h2 h3=>
    refine .val h hd (hrun ad hex) ?_;by_cases hlt:p.1<cs.length
    ·have hsp:=h0 (fun e=>by subst e;simp at hlt)
     rw[Il ad p.1 hsp]
     refine RepD.ref _ _ (fun q=>vs (p.1+q)) (fun _=>rfl) ?_ ?_ ?_
     all_goals
      intro q y hy;rw[List.getElem?_drop]at hy
     ·have:=h1 _ y hy;simpa [Nat.add_assoc]using this
     ·have:=h2 _ y hy;simpa [Nat.add_assoc]using this
     ·exact h3 _ y hy
    ·have:cs.drop p.1=[]:=List.drop_eq_nil_of_le (by omega)
     rw[this]
     exact RepD.ref [] _ (fun _=>undef) (fun h=>absurd rfl h) (fun q y hy=>by simp at hy) (fun q y hy=>by simp at hy) (fun q y hy=>by simp at hy)
theorem Qx(h:Rel M Z w0 ρ st a w){b sz:Nat}(hb:isRow st.h b sz=true){o:Own}(ho:ρ b=some o):o.sz=sz:=by
 unfold isRow at hb;split at hb
 ·rename_i sz' cs app hl
  obtain⟨o',ho',hr⟩:=h.heap.rep b _ hl
  obtain rfl:o'=o:=(by grind)
  rw[hr.1]
  simpa using hb
 ·rename_i cs hl
  obtain⟨o',ho',hr⟩:=h.heap.rep b _ hl
  obtain rfl:o'=o:=(by grind)
  rw[hr.1]
  grind
 ·cases hb
theorem jgX(h:Rel M Z w0 ρ st a w)(hT:A5 P T){o:Oper}(hd: ∀d,o.dst=some d→d<a.tmps.size)(t:TypeId)(x y:Operand)(ho:o.op= .indexAddr t x y){st':St}
  (hs:((T t).bind fun ti=>(st.evC x).bind fun c=>(st.evI y).bind fun n=>(idxAddr T st.h ti n.2 c).map fun c=>st.put o.dst (vC c))=some st'):StepOk P M Z w0 o st' a w:=by
 simp only[jzd,jze]at hs;obtain⟨i,hi,c,hc,⟨kn,n⟩,hn,c',hc',rfl⟩:=hs;obtain⟨info,d,ht⟩:=Be (hT t i hi);have hr:=h.evC hc;have hy:=h.evI hn;simp only at hy hc';unfold idxAddr at hc';split at hc'
 ·rename_i m e harr
  rw[jzd]at hc'
  obtain⟨j,hj,hc'⟩:=hc'
  obtain⟨infj,dj,htj⟩:=Be (hT _ j hj)
  have hu:=ht.array harr;have hrun: ∀ad:Addr,a.eval x= .pointer (some ad)→0≤n∧n<m→(execOp a.eval o).run P w= .ok (.value (.pointer (some (ad.add (n.toNat*j.size))))) w:=fun ad he hb=>by
   simp[execOp,ho,Instr.indexAt,hy,asIntOf,run_underlying hu,Instr.sureAddr,he,hb.1,hb.2,htj.sizeOf]
  unfold idxArr at hc';split at hc'
  ·split at hc'<;>cases hc'
   rename_i b off hb
   obtain⟨ow,how,hnn,he⟩:=hr
   refine .val h hd (hrun _ he hb) ⟨ow,how,hnn,?_⟩;simp[Own.at,E2,Nat.add_assoc]
  ·split at hc'<;>cases hc'
   rename_i cs hb
   generalize hex:a.eval x=vx at hr;cases hr with
   |ref _ ad vs h0 h1 h2 h3=>
    refine .val h hd (hrun ad hex hb) ?_;by_cases hlt:n.toNat*j.size<cs.length
    ·have hsp:=h0 (fun e=>by subst e;simp at hlt)
     rw[Il ad _ hsp]
     refine RepD.ref _ _ (fun q=>vs (n.toNat*j.size+q)) (fun _=>rfl) ?_ ?_ ?_
     all_goals
      intro q y hy;rw[List.getElem?_drop]at hy
     ·grind
     ·grind
     ·exact h3 _ y hy
    ·have:cs.drop (n.toNat*j.size)=[]:=(by simp_all)
     rw[this]
     exact RepD.ref [] _ (fun _=>undef) (by simp) (by simp) (by simp) (fun q y hy=>by simp at hy)
  ·cases hc'
 ·rename_i harr
  simp only[jzd]at hc';obtain⟨e,he,j,hj,hc'⟩:=hc';obtain⟨infj,dj,htj⟩:=Be (hT _ j hj);have hu:=ht.slice he;have hrun: ∀(ad:Addr) (len cap:Nat),a.eval x= .slice (some ad) len cap→0≤n∧n<len→(execOp a.eval o).run P w= .ok (.value (.pointer (some (ad.add (n.toNat*j.size))))) w:=fun ad len cap he hb=>by
   simp[execOp,ho,Instr.indexAt,hy,asIntOf,run_underlying hu,he,hb.1,hb.2,htj.sizeOf]
  unfold idxSl at hc';split at hc'
  ·split at hc'<;>cases hc'
   rename_i b off len hb
   obtain⟨hb0,hb1,hbr⟩:=hb
   obtain⟨ow,how,hroom,hcase⟩:=hr
   have hosz:=Qx h hbr how;rcases hcase with⟨_,_,_,h0⟩|⟨hnn,ad,cap,he2,hnc,hcm,had,_⟩
   ·omega
   ·refine .val h hd (hrun ad len cap he2 ⟨hb0,hb1⟩) ⟨ow,how,hnn,?_⟩;have hae:ad=ow.at (off*ow.sz):=by
     grind
    simp_all[Own.at,E2,Nat.add_mul,Nat.add_assoc]
  ·split at hc'<;>cases hc'
   rename_i len cs hb
   obtain⟨hb0,hb1,hcl⟩:=hb
   generalize hex:a.eval x=vx at hr;cases hr with
   |snil=>omega
   |slice _ _ ad cap vs h0 hnc hcm h1 h2 h3=>
    refine .val h hd (hrun ad len cap hex ⟨hb0,hb1⟩) ?_;by_cases hlt:n.toNat*j.size<cs.length
    ·have hsp:=h0 (fun e=>by subst e;simp at hlt)
     rw[Il ad _ hsp]
     refine RepD.ref _ _ (fun q=>vs (n.toNat*j.size+q)) (fun _=>rfl) ?_ ?_ ?_
     all_goals
      intro q y hy;rw[List.getElem?_drop]at hy
     ·grind
     ·grind
     ·exact h3 _ y hy
    ·have:cs.drop (n.toNat*j.size)=[]:=(by simp_all)
     rw[this]
     exact RepD.ref [] _ (fun _=>undef) (by simp) (by simp) (by simp) (by simp)
  ·cases hc'
theorem Kv{n:Nat}{lo hi:Option Int}{k:Nat→Nat→C}{c:C}(h:Gb n lo hi k=some c): ∃l m:Nat,c=k l m∧l+m≤n∧lo.getD 0=(l:Int)∧hi.getD n=((l+m:Nat):Int):=by
 unfold Gb at h
 grind
theorem V5(isS:Bool)(n c l m:Nat)(lo hi:Option Value)(hlo:(lo=none∧l=0)∨ ∃k,lo=some (.int k l))(hhi:(hi=none∧l+m=n)∨ ∃k,hi=some (.int k ((l+m:Nat):Int)))(hc:l+m≤c):
  (Instr.sliceBounds isS n c lo hi none).run P w= .ok (l,l+m,c) w:=by
 rcases hhi with⟨rfl,rfl⟩|⟨k,rfl⟩<;>rcases hlo with⟨rfl,rfl⟩|⟨k',rfl⟩
 ·rfl
 ·simp[Instr.sliceBounds,Instr.sliceBound,asIntOf]
 ·simp_all[Instr.sliceBounds,Instr.sliceBound,asIntOf]
 ·have h1:((l:Int)+(m:Int)≤(c:Int)):=by omega
  have h2:(0:Int)≤(l:Int)+(m:Int):=by omega
  have h3:((l:Int)+(m:Int)).toNat=l+m:=by omega
  simp_all[Instr.sliceBounds,Instr.sliceBound,asIntOf]
theorem LU(h:Rel M Z w0 ρ st a w){x:Option Operand}{v:Option Int}(hv:st.evO x=some v):(x.map a.eval=none∧v=none)∨ ∃k n,x.map a.eval=some (.int k n)∧v=some n:=by
 cases x with
 |none=>cases hv;simp
 |some x=>
  simp only[St.evO,jze]at hv;obtain⟨p,hp,rfl⟩:=hv;exact .inr ⟨p.1,p.2,by simp[h.evI hp],rfl⟩
theorem jeR(h:Rel M Z w0 ρ st a w)(hT:A5 P T){o:Oper}(hd: ∀d,o.dst=some d→d<a.tmps.size)(t:TypeId)(x:Operand)(lo hi:Option Operand)(ho:o.op= .slice t x lo hi none){st':St}
  (hs:((T t).bind fun i=>(st.evC x).bind fun c=>(st.evO lo).bind fun l=>(st.evO hi).bind fun h=>
   (match i.sl with|some e=>(T e).bind fun j=>sliceV st.h c l h j.size|none=>if Ce i then sliceS c l h else none).map fun v=>st.put o.dst (vC v))=some st'):StepOk P M Z w0 o st' a w:=by
 simp only[jzd,jze]at hs;obtain⟨i,hti,c,hc,lo',hlo,hi',hhi,c',hc',rfl⟩:=hs;obtain⟨info,d,ht⟩:=Be (hT t i hti);have hr:=h.evC hc;have bnd: ∀(isS:Bool) {n c l m:Nat},lo'.getD 0=(l:Int)→hi'.getD n=((l+m:Nat):Int)→l+m≤c→(Instr.sliceBounds isS n c (lo.map a.eval) (hi.map a.eval) none).run P w= .ok (l,l+m,c) w:=fun isS {n c l m} h1 h2 h3=>by
  refine V5 isS n c l m _ _ ?_ ?_ h3
  ·rcases LU h hlo with⟨e1,rfl⟩|⟨k,q,e1,rfl⟩
   ·grind
   grind
  ·rcases LU h hhi with⟨e1,rfl⟩|⟨k,q,e1,rfl⟩
   ·grind
   grind
 split at hc'
 ·rename_i e he
  rw[jzd]at hc'
  obtain⟨j,hj,hc'⟩:=hc'
  obtain⟨infj,dj,htj⟩:=Be (hT _ j hj)
  have hu:=ht.slice he;have hrun: ∀{A:Option Addr} {n cap l m:Nat},a.eval x= .slice A n cap→lo'.getD 0=(l:Int)→hi'.getD n=((l+m:Nat):Int)→l+m≤cap→
    (execOp a.eval o).run P w= .ok (.value (.slice (if cap=l then A else A.map (·.add (l*j.size))) m (cap - l))) w:=fun {A n cap l m} he2 h1 h2 h3=>by
   have hb:=bnd true h1 h2 h3;simp[execOp,ho,Instr.sliceAt,Instr.slice,run_underlying hu,he2,hb,htj.sizeOf]
  unfold sliceV at hc';split at hc'
  ·split at hc'
   case isFalse=>cases hc'
   case isTrue hrow=>
    rename_i b off n
    obtain⟨l,m,rfl,hlm,e1,e2⟩:=Kv hc'
    obtain⟨ow,how,hroom,hcase⟩:=hr
    have hosz:=Qx h hrow how;rcases hcase with⟨hnn,he2,rfl,rfl⟩|⟨hnn,ad,cap,he2,hnc,hcm,had,happ⟩
    ·have hl0:l=0:=by omega
     have hm0:m=0:=by omega
     subst hl0;subst hm0;exact .val h hd (hrun he2 e1 e2 (by omega)) ⟨ow,how,by omega,.inl ⟨hnn,by simp,by omega,rfl⟩⟩
    ·refine .val h hd (hrun he2 e1 e2 (by omega)) ⟨ow,how,by omega,.inr ⟨hnn,?_⟩⟩
     by_cases hcl:cap=l
     ·refine⟨ad,cap - l,by simp[hcl],by omega,by omega,.inl (by omega),fun hh=>by have:=happ hh;omega⟩
     ·refine⟨ad.add (l*j.size),cap - l,by simp[hcl],by omega,by omega,.inr ?_,fun hh=>by have:=happ hh;omega⟩
      have hae:ad=ow.at (off*ow.sz):=by
       rcases had with h0|h1
       ·omega
       ·exact h1
      subst hae;simp only[Own.at,E2,hosz,Nat.add_mul,Nat.add_assoc]
  ·obtain⟨l,m,rfl,hlm,e1,e2⟩:=Kv hc'
   have hl0:l=0:=by omega
   have hm0:m=0:=by omega
   subst hl0;subst hm0;exact .val h hd (hrun hr e1 e2 (by omega)) (by rfl)
  ·split at hc'
   case isFalse=>cases hc'
   case isTrue hcl=>
    rename_i n cs
    obtain⟨l,m,rfl,hlm,e1,e2⟩:=Kv hc'
    generalize hex:a.eval x=vx at hr;cases hr with
    |snil=>
     have hl0:l=0:=by omega
     have hm0:m=0:=by omega
     subst hl0;subst hm0;refine .val h hd (hrun hex e1 e2 (by omega)) ?_
     simp only[AP,Nat.zero_mul,List.take_zero,List.drop_nil,ite_self,Option.map_none,Nat.sub_zero];exact RepD.snil
    |slice _ _ ad cap vs h0 hnc hcm h1 h2 h3=>
     refine .val h hd (hrun hex e1 e2 (by omega)) ?_
     have hempty:m=0∨j.size=0→AP (l*j.size) (m*j.size) cs=[]:=fun h=>by
      rcases h with rfl|h
      ·simp[AP]
      ·simp[AP,h]
     have mkn: ∀ad':Addr,(AP (l*j.size) (m*j.size) cs=[])→RepD w (Ar ρ Z) (.slice m (AP (l*j.size) (m*j.size) cs)) (.slice (some ad') m (cap - l)):=fun ad' he=>by
      rw[he]
      exact .slice m [] ad' _ (fun _=>undef) (fun h=>absurd rfl h) (by omega) (by omega) (fun q y hy=>by simp at hy) (fun q y hy=>by simp at hy) (fun q y hy=>by simp at hy)
     by_cases hcl2:cap=l
     ·have hm0:m=0:=by omega
      rw[if_pos hcl2]
      exact mkn ad (hempty (.inl hm0))
     ·rw[if_neg hcl2]
      simp only[Option.map_some];by_cases hz:m=0∨j.size=0
      ·exact mkn _ (hempty hz)
      ·have hcne:cs≠[]:=fun e=>by
        subst e;have h0:n*j.size=0:=hcl.symm;rcases Nat.mul_eq_zero.1 h0 with h|h<;>omega
       have hsp:=h0 hcne;rw[Il ad _ hsp];refine RepD.slice m _ _ (cap - l) (fun q=>vs (l*j.size+q)) (fun _=>rfl) (by omega) (by omega) ?_ ?_ ?_
       all_goals
        intro q y hy;rw[getElem?_cut]at hy;split at hy<;>try (cases hy;done)
       ·have:=h1 _ y hy;simpa [Nat.add_assoc]using this
       ·have:=h2 _ y hy;simpa [Nat.add_assoc]using this
       ·exact h3 _ y hy
  ·cases hc'
 ·rename_i hsl
  split at hc'
  case isFalse=>cases hc'
  case isTrue hstr=>
   have hu:=Ih ht hstr;unfold sliceS at hc';split at hc'
   ·rename_i s
    obtain⟨l,m,rfl,hlm,e1,e2⟩:=Kv hc'
    generalize hex:a.eval x=vx at hr;cases hr;have hb:=bnd false e1 e2 hlm;exact .val h hd (x:= .string (s.extract l (l+m))) (by simp[execOp,ho,Instr.sliceAt,Instr.slice,run_underlying hu,hex,hb]) (RepD.str _)
   ·cases hc'
theorem QJ{t:TypeId}{i:TI}{info:TypeInfo}{d:TypeDesc}(ht:TyOk P t i info d){off:Nat}{cs:List C}{u:U}(h:part i off cs=some u){vs:List Value}(hr:RepL (RepC ρ w Z) cs vs): ∃v,(Go.part t vs.toArray off).run P w= .ok v w∧RepU ρ w Z u v:=by
 unfold Va.part at h;split at h
 ·rename_i ha
  split at h<;>cases h
  rename_i hl
  refine⟨.agg ((vs.drop off).take i.size).toArray,?_,(vs.drop off).take i.size,rfl,?_⟩
  ·have he:vs.toArray.extract off (off+i.size)=((vs.drop off).take i.size).toArray:=by
    simp
   simp[Go.part,ht.isAgg,ha,ht.sizeOf,he]
  ·have h1:=hr.1;refine⟨by simp[AP,h1],fun q x v hx hv=> ?_⟩
   rw[getElem?_cut]at hx
   rw[List.getElem?_take,List.getElem?_drop]at hv
   split at hx<;>try (cases hx;done)
   rw[if_pos ‹_›]at hv
   exact hr.2 _ x v hx hv
 ·rename_i ha
  rw[jze]at h
  obtain⟨c,hc,rfl⟩:=h
  have hl:off<vs.length:=by rw[←hr.1];grind
  exact⟨vs[off],by simp[Go.part,ht.isAgg,ha,hl],hr.2 off c _ hc (by simp)⟩
theorem jd5(h:Rel M Z w0 ρ st a w)(hT:A5 P T){o:Oper}(hd: ∀d,o.dst=some d→d<a.tmps.size)(t:TypeId)(x:Operand)(f:Nat)(ho:o.op= .field t x f){st':St}
  (hs:((T t).bind fun i=>(st.evU x).bind fun u=>(fieldOf T i f u).map fun u=>st.put o.dst (.u u))=some st'):StepOk P M Z w0 o st' a w:=by
 simp only[jzd,jze]at hs;obtain⟨i,hi,u,hu,u',hu',rfl⟩:=hs;obtain⟨info,d,ht⟩:=Be (hT t i hi);have hr:=h.evU hu;unfold fieldOf at hu';split at hu'
 ·simp only[jzd]at hu';obtain⟨p,hp,j,hj,hpart⟩:=hu';obtain⟨infj,dj,htj⟩:=Be (hT _ j hj);obtain⟨fs,fd,hund,hfd,hoff,hty⟩:=ht.field hp;obtain⟨vs,hvs,hl⟩:=hr;obtain⟨v,hv,hrv⟩:=QJ (P:=P) htj hpart hl;rw[←hty,←hoff]at hv;exact .val h hd (x:=v) (by simp_all[execOp,Instr.field,run_underlying,asAgg]) hrv
 ·cases hu'
theorem jeN(h:Rel M Z w0 ρ st a w)(hT:A5 P T){o:Oper}(hd: ∀d,o.dst=some d→d<a.tmps.size)(t:TypeId)(x y:Operand)(ho:o.op= .index t x y){st':St}
  (hs:((T t).bind fun ti=>(st.evU x).bind fun u=>(st.evI y).bind fun n=>(indexOf T ti n.2 u).map fun u=>st.put o.dst (.u u))=some st'):StepOk P M Z w0 o st' a w:=by
 simp only[jzd,jze]at hs;obtain⟨i,hi,u,hu,⟨kn,n⟩,hn,u',hu',rfl⟩:=hs;obtain⟨info,d,ht⟩:=Be (hT t i hi);have hr:=h.evU hu;have hy:=h.evI hn;simp only at hy hu';unfold indexOf at hu';split at hu'
 ·simp only[jzd]at hu';obtain⟨⟨m,e⟩,hp,j,hj,hu'⟩:=hu';split at hu'
  case isFalse=>cases hu'
  case isTrue hb=>
   obtain⟨infj,dj,htj⟩:=Be (hT _ j hj)
   have hund:=ht.array hp;obtain⟨vs,hvs,hl⟩:=hr;obtain⟨v,hv,hrv⟩:=QJ (P:=P) htj hu' hl;exact .val h hd (x:=v) (by simp[execOp,ho,hvs,hy,Instr.index,asIntOf,run_underlying hund,hb.1,hb.2,htj.sizeOf,hv]) hrv
 ·rename_i s
  split at hu'
  case isFalse=>cases hu'
  case isTrue hb=>
   rw[jze]at hu'
   obtain⟨bt,hbt,rfl⟩:=hu'
   have hund:=Ih ht hb.1;generalize hex:a.eval x=vx at hr;cases hr;exact .val h hd (x:= .int .u8 bt.toNat) (by simp[execOp,ho,hex,hy,Instr.index,asIntOf,run_underlying hund,hb.2.1,hbt]) (B4 _ _ _ _ _)
 ·cases hu'
theorem VS(h:Rel M Z w0 ρ st a w){o:Oper}(hd: ∀d,o.dst=some d→d<a.tmps.size)(x:Operand)(i:Nat)(ho:o.op= .extract x i){st':St}
  (hs:((st.ev x).bind fun v=>(tupAt i v).map fun u=>st.put o.dst (.u u))=some st'):StepOk P M Z w0 o st' a w:=by
 simp only[jzd,jze]at hs;obtain⟨v,hv,u,hu,rfl⟩:=hs;have hr:=h.ev hv;unfold tupAt at hu;split at hu
 ·obtain⟨vs,hvs,hl⟩:=hr
  have hi:i<vs.length:=by rw[←hl.1];grind
  exact .val h hd (x:=vs[i]) (by simp_all[execOp,Instr.extract]) (hl.2 i u _ hu (by simp))
 ·cases hu
theorem Pt(h:Rel M Z w0 ρ st a w): ∀{xs:List Operand} {cs:List C},xs.mapM st.evC=some cs→RepL (RepC ρ w Z) cs (xs.map a.eval)
 |[],cs,hc=>by simp at hc;subst hc;exact⟨rfl,(by simp)⟩
 |x::xs,cs,hc=>by
  simp only[List.mapM_cons,Option.pure_def,Option.bind_eq_bind,jzd,Option.some.injEq]at hc;obtain⟨c,hc1,cs',hc2,rfl⟩:=hc;obtain⟨i1,i2⟩:=Pt h hc2;refine⟨by simpa using i1,fun j y v hy hv=> ?_⟩
  cases j with
  |zero=>simp at hy hv;subst hy;subst hv;exact h.evC hc1
  |succ j=>grind
theorem ZY(h:Rel M Z w0 ρ st a w){o:Oper}(hd: ∀d,o.dst=some d→d<a.tmps.size)(f:FuncId)(first captured:Array Operand)(ho:o.op= .makeFunc (.func f) first captured){st':St}
  (hs:(if first.toList=[] then (captured.toList.mapM st.evC).map fun cs=>st.put o.dst (.u (clo st.h f cs)) else none)=some st'):StepOk P M Z w0 o st' a w:=by
 split at hs
 case isFalse=>cases hs
 case isTrue hf=>
  simp only[jze]at hs;obtain⟨cs,hcs,rfl⟩:=hs;have hl:=Pt h hcs;have hf':first= #[]:=by apply Array.ext';simpa using hf
  have e1:captured.map a.eval=(captured.toList.map a.eval).toArray:=by apply Array.ext';simp
  refine .val h hd (x:= .func (.func f) #[] (captured.toList.map a.eval).toArray) (by simp[execOp,ho,Instr.makeFunc,hf',e1]) ?_
  unfold clo;split
  ·rename_i ds hds
   obtain⟨m1,m2⟩:=Dl hds
   refine RepD.fn f ds _ (m1.trans hl.1) fun j x v hx hv=> ?_
   have hj:j<cs.length:=by rw[←m1];exact(jzg.1 hx).1
   obtain⟨y,hy,hf⟩:=m2 j _ (AD hj)
   rw[hx]at hy
   cases hy;exact(EP h _ 4 _ v _ (hl.2 j _ v (AD hj) hv) hf).keep (Keep.mono fun ad ho=>by
    rcases ho with hz|⟨j,o,h1,h2⟩
    ·exact .inl hz
    ·exact .inr ⟨j,o,by simpa [ersd]using h1,h2⟩)
  ·exact⟨_,rfl,hl⟩
theorem jhl(h:Rel M Z w0 ρ st a w)(hT:A5 P T){o:Oper}(hd: ∀d,o.dst=some d→d<a.tmps.size)(t:TypeId)(x:Operand)(ho:o.op= .call { callee:= .builtin .cap,args:= #[x],argTypes:= #[t] }){st':St}
  (hs:((T t).bind fun i=>Ko i o.dst st x)=some st'):StepOk P M Z w0 o st' a w:=by
 rw[jzd]at hs
 obtain⟨i,hi,hs⟩:=hs
 obtain⟨info,d,ht⟩:=Be (hT t i hi)
 unfold Ko at hs;split at hs
 case isFalse=>cases hs
 rename_i hsl
 obtain⟨e,he⟩:=Option.isSome_iff_exists.1 hsl
 have hu:=ht.slice he;split at hs<;>cases hs;rename_i hc;have hv:a.eval x= .slice none 0 0:=h.evC hc;exact .val h hd (x:= .int .i64 0) (by simp[execOp,ho,resolve,invoke,builtin,Builtin.cap_,run_underlying hu,hv,goInt]) (B4 _ _ _ _ _)
theorem jj7(h:Rel M Z w0 ρ st a w)(hT:A5 P T){o:Oper}(hd: ∀d,o.dst=some d→d<a.tmps.size)(t:TypeId)(x:Operand)(ho:o.op= .call { callee:= .builtin .len,args:= #[x],argTypes:= #[t] }){st':St}
  (hs:((T t).bind fun i=>G3 i o.dst st x)=some st'):StepOk P M Z w0 o st' a w:=by
 rw[jzd]at hs
 obtain⟨i,hi,hs⟩:=hs
 obtain⟨info,d,ht⟩:=Be (hT t i hi)
 unfold G3 at hs;split at hs
 ·rename_i n e harr
  cases hs;have hu:=ht.array harr
  exact .val h hd (x:= .int .i64 n) (by simp_all[execOp,resolve,invoke,builtin,Builtin.len_,run_underlying,goInt]) (B4 _ _ _ _ _)
 ·simp only[jzd,jze]at hs;obtain⟨c,hc,n,hn,rfl⟩:=hs;have hr:=h.evC hc;split at hn
  ·rename_i hsl
   obtain⟨e,he⟩:=Option.isSome_iff_exists.1 hsl
   have hu:=ht.slice he;have hv: ∃A cap,a.eval x= .slice A n cap:=by
    unfold lenC at hn;split at hn<;>cases hn
    ·exact⟨none,0,hr⟩
    ·obtain⟨ow,how,_,⟨_,h1,_,rfl⟩|⟨_,ad,cap,h1,_⟩⟩:=hr
     ·grind
     grind
    ·generalize a.eval x=vx at hr;cases hr with
     |snil=>simp
     |slice=>simp
   obtain⟨A,cap,hv⟩:=hv
   exact .val h hd (x:= .int .i64 n) (by simp_all[execOp,resolve,invoke,builtin,Builtin.len_,run_underlying,goInt]) (B4 _ _ _ _ _)
  ·split at hn
   case isFalse=>cases hn
   case isTrue hstr=>
    have hu:=Ih ht hstr;unfold lenS at hn;split at hn<;>cases hn;generalize hex:a.eval x=vx at hr;cases hr;exact .val h hd (x:= .int .i64 _) (by simp[execOp,ho,resolve,invoke,builtin,Builtin.len_,run_underlying hu,hex,goInt]<;>rfl) (B4 _ _ _ _ _)
end
end Go.Va
