/- a part of the proof -/
import Derived.Test.YtplacedebenpaaaGreatDoorEac
import Derived.Laws.StructEq
import Derived.ChangeKeysEq
import Derived.Laws.BytesString
set_option linter.all false
namespace Go.Va
open IntKind renaming signed → aD, bits → aH, wrap → aO, max → aP
open Op renaming intCmp → aG, intBits → aI, equalIn → aJ, eqItems → aL, intArith → aM, eqFields → aN
open Go.RowKit
variable [DrC]
variable [Gv]
variable{t:TypeId}{d:TypeDesc}{k:IntKind}
section
variable {P:Program} {T:AH} {M Z:Addr->Prop} {w0 w:World} {ρ:AE} {st:St} {a:Act}
theorem Ih{i:TI}{info:TypeInfo}(g:TyOk P t i info d)(h:Ce i=true):P.underlying t=some .string:=by
 unfold Ce at h;split at h
 ·rename_i s a b e f;exact g.str b e a f
 ·cases h
theorem WS{n:Int}(h:HW k n):k.wrap n=n:=by
 cases k<;>simp only[HW,IntKind.min,aP,aD,aH,if_true,Bool.false_eq_true,if_false]at h<;>simp[aO,aD,aH]at h ⊢ <;>(try split)<;>omega
theorem IF{n:Int}{v:V}(h:DJ k n=some v):v=vI k (k.wrap n):=by
 grind[DJ,Dz,WS,aO,aD,aH]
theorem B4(ρ:AE)(w:World)(Z:Addr->Prop)(k:IntKind)(n:Int):RepV ρ w Z (vI k n) (.int k n):=RepD.int k n
theorem DN(ρ:AE)(w:World)(Z:Addr->Prop)(b:Bool):RepV ρ w Z (vB b) (.bool b):=RepD.bool b
theorem jfN{e:BinOp}{x y:Int}{v:V}(b:e≠ .shl/\e≠ .shr)(h:binI e k x y=some v): ∃u,∀t,(binOp e t (.int k x) (.int k y)).run P w= .ok u w/\RepV ρ w Z v u:=by
 cases e<;>simp only[binI,Om,Da,RX,To]at h
 case add=>refine⟨_,λt=>⟨by simp[Go.binOp,aM]<;>rfl,?_⟩⟩;rw[IF h];exact B4 _ _ _ _ _
 case sub=>refine⟨_,λt=>⟨by simp[Go.binOp,aM]<;>rfl,?_⟩⟩;rw[IF h];exact B4 _ _ _ _ _
 case mul=>refine⟨_,λt=>⟨by simp[Go.binOp,aM]<;>rfl,?_⟩⟩;rw[IF h];exact B4 _ _ _ _ _
 case quo=>
  simp only[jzd,Dz]at h;obtain⟨_,a,h⟩:=h;split at a
  ·rename_i f;refine⟨_,λt=>⟨by simp[Go.binOp,Op.intDiv,f]<;>rfl,?_⟩⟩;rw[IF h];exact B4 _ _ _ _ _
  ·cases a
 case rem=>
  simp only[jze,Dz]at h;obtain⟨_,a,rfl⟩:=h;split at a
  ·rename_i f;exact⟨_,λt=>⟨by simp[Go.binOp,Op.intDiv,f]<;>rfl,B4 _ _ _ _ _⟩⟩
  ·cases a
 case eql=>cases h;exact⟨.bool (decide (x=y)),λt=>⟨by simp[Go.binOp,aG]<;>rfl,DN _ _ _ _⟩⟩
 case neq=>cases h;exact⟨.bool (!decide (x=y)),λt=>⟨by simp[Go.binOp,aG]<;>rfl,DN _ _ _ _⟩⟩
 case lss=>cases h;exact⟨_,λt=>⟨by simp[Go.binOp,aG]<;>rfl,DN _ _ _ _⟩⟩
 case leq=>cases h;exact⟨_,λt=>⟨by simp[Go.binOp,aG]<;>rfl,DN _ _ _ _⟩⟩
 case gtr=>cases h;exact⟨_,λt=>⟨by simp[Go.binOp,aG]<;>rfl,DN _ _ _ _⟩⟩
 case geq=>cases h;exact⟨_,λt=>⟨by simp[Go.binOp,aG]<;>rfl,DN _ _ _ _⟩⟩
 case and=>cases h;exact⟨_,λt=>⟨by simp[Go.binOp,aI]<;>rfl,B4 _ _ _ _ _⟩⟩
 case or=>cases h;exact⟨_,λt=>⟨by simp[Go.binOp,aI]<;>rfl,B4 _ _ _ _ _⟩⟩
 case xor=>cases h;exact⟨_,λt=>⟨by simp[Go.binOp,aI]<;>rfl,B4 _ _ _ _ _⟩⟩
 case andNot=>cases h;exact⟨_,λt=>⟨by simp[Go.binOp,aI]<;>rfl,B4 _ _ _ _ _⟩⟩
 case shl=>exact absurd rfl b.1
 case shr=>exact absurd rfl b.2
theorem PN{a:BinOp}{k':IntKind}{x y:Int}{v:V}(b:a= .shl\/a= .shr)(h:shiftI a k x y=some v): ∃u,∀t,(binOp a t (.int k x) (.int k' y)).run P w= .ok u w/\RepV ρ w Z v u:=by
 rcases b with rfl|rfl<;>simp only[shiftI,CW,Ge,jze,Dz]at h<;>obtain⟨_,e,rfl⟩:=h<;>split at e<;>try cases e
 ·rename_i f;exact⟨_,λt=>⟨by simp[Go.binOp,Op.shift,show ¬y<0 by omega]<;>rfl,B4 _ _ _ _ _⟩⟩
 ·rename_i f;exact⟨_,λt=>⟨by simp[Go.binOp,Op.shift,show ¬y<0 by omega]<;>rfl,B4 _ _ _ _ _⟩⟩
theorem jcY{a:BinOp}{x y:ByteArray}{v:V}(h:G6 a x y=some v): ∃u,∀t,(binOp a t (.string x) (.string y)).run P w= .ok u w/\RepV ρ w Z v u:=by
 cases a<;>simp only[G6]at h<;>try cases h
 case add=>
  simp only[jze,Dz]at h;obtain⟨_,b,rfl⟩:=h;split at b
  ·rename_i e;refine⟨.string (x++y),λt=>⟨?_,RepD.str _⟩⟩;have: ¬(((x.size+y.size:Nat):Int)>IntKind.i64.max):=by grind[aP,aD,aH]
   simp_all[Go.binOp,Op.stringOp,if_false,Sem.run_pure]
  ·cases b
 case eql=>exact⟨_,λt=>⟨O5,DN _ _ _ _⟩⟩
 case neq=>exact⟨_,λt=>⟨O5,DN _ _ _ _⟩⟩
theorem F7{a:BinOp}{x y:Operand}{u v:Value}(h: ∀cs,u≠ .agg cs)(b:u≠ .nilIface):(eqGuard a t x y u v).run P w= .ok () w:=by
 unfold eqGuard;simp_all
theorem Ti{z:C}{x y:C}{k l:Value}{b:Bool}(d:Nat)(f:Ej P t (some z)=true)(i:RepC ρ w Z x k)(j:RepC ρ w Z y l)(e:JM z x y=some b):
  (aJ (d+1) t k l).run P w= .ok b w:=by
 unfold JM at e;split at e
 ·cases i;cases j;split at e<;>cases e;rename_i h;subst h;unfold Ej at f;cases a:P.underlying t with
  |none=>simp[a]at f
  |some g=>
   cases g<;>simp[a]at f;simp[aJ,run_underlying a];rfl
 ·cases i;cases j;cases e;unfold Ej at f;cases a:P.underlying t with
  |none=>simp[a]at f
  |some g=>
   cases g<;>simp[a]at f;simp[aJ,run_underlying a];rfl
 ·cases e
theorem KG{z:C}(a:Ej P t (some z)=true){vs:Array Value}{j:Nat}{v:Value}(f:vs[j]? =some v):(Go.part t vs j).run P w= .ok v w:=by
 unfold Ej at a;cases b:P.underlying t with
 |none=>simp[b]at a
 |some e=>cases e<;>simp[b]at a<;>simp[Go.part,Go.isAgg,run_underlying b,f]
theorem TJ(d:Nat){e:TypeId}(vs p:Array Value): ∀(g i l:List C) (k:Nat) (b:Bool),(∀z∈g,Ej P e (some z)=true)->(∀(j:Nat) (x:C),i[j]? =some x-> ∃v,vs[k+j]? =some v/\RepC ρ w Z x v)->
  (∀(j:Nat) (x:C),l[j]? =some x-> ∃v,p[k+j]? =some v/\RepC ρ w Z x v)->Ey g i l=some b->
  (aL (d+1) e 1 vs p (List.range' k g.length)).run P w= .ok b w
 |[],[],[],_,_,_,_,_,h=>by cases h;simp[aL]
 |[],[],_::_,_,_,_,_,_,h=>by cases h
 |[],_::_,_,_,_,_,_,_,h=>by cases h
 |_::_,[],_,_,_,_,_,_,h=>by cases h
 |_::_,_::_,[],_,_,_,_,_,h=>by cases h
 |z::g,x::i,y::l,k,b,G,E,F,h=>by
  simp only[Ey,jzd,jze]at h;obtain⟨H,J,I,K,rfl⟩:=h;have a:=G z O1;obtain⟨v,t,o⟩:=E 0 x rfl;obtain⟨u,r,m⟩:=F 0 y rfl;have L:=TJ d vs p g i l (k+1) I (λq f=>G q (by simp[f])) (λj q f=>by have:=E (j+1) q (by simpa using f);rwa [show k+(j+1)=k+1+j by omega]at this)
   (λj q f=>by have:=F (j+1) q (by simpa using f);grind) K
  simp only[Nat.add_zero]at t r;have M:=KG (P:=P) (w:=w) a t;have N:=KG (P:=P) (w:=w) a r;have Q:=Ti d a o m J;simp only[List.length_cons,List.range'_succ,aL,Nat.mul_one,Sem.run_bind,M,N,Q,Result.andThen_ok];cases H
  ·simp
  ·simpa using L
theorem Tg (d : Nat) (vs us : Array Value) : ∀ (zs xs ys : List C) (fs : List Field) (k : Nat) (b : Bool), fs.length = zs.length → (∀ (j : Nat) (f : Field), fs[j]? = some f → f.name ≠ "_" ∧ f.offset = k + j ∧ Ej P f.type zs[j]? = true) →
  (∀(j:Nat) (x:C),xs[j]? =some x-> ∃v,vs[k+j]? =some v/\RepC ρ w Z x v)->(∀(j:Nat) (x:C),ys[j]? =some x-> ∃v,us[k+j]? =some v/\RepC ρ w Z x v)->Ey zs xs ys=some b->
  (aN (d+1) vs us fs).run P w= .ok b w
 |[],[],[],fs,_,_,hl,_,_,_,h=>by cases h;rw[List.eq_nil_of_length_eq_zero hl];simp[aN]
 |[],[],_::_,_,_,_,_,_,_,_,h=>by cases h
 |[],_::_,_,_,_,_,_,_,_,_,h=>by cases h
 |_::_,[],_,_,_,_,_,_,_,_,h=>by cases h
 |_::_,_::_,[],_,_,_,_,_,_,_,h=>by cases h
 |z::zs,x::xs,y::ys,[],k,b,hl,hf,hx,hy,h=>by simp at hl
 |z::zs,x::xs,y::ys,f::fs,k,b,hl,hf,hx,hy,h=>by
  simp only[Ey,jzd,jze]at h;obtain⟨b1,h1,b2,h2,rfl⟩:=h;obtain⟨f1,f2,f3⟩:=hf 0 f rfl;have hz0:Ej P f.type (some z)=true:=by simpa using f3
  obtain⟨v,hv,hvr⟩:=hx 0 x rfl;obtain⟨u,hu,hur⟩:=hy 0 y rfl;have ih:=Tg d vs us zs xs ys fs (k+1) b2 (by simpa using hl) (λj q hq=>by have:=hf (j+1) q (by simpa using hq);rw[show k+(j+1)=k+1+j by omega]at this;simpa using this)
   (λj q hq=>by have:=hx (j+1) q (by simpa using hq);rwa [show k+(j+1)=k+1+j by omega]at this)
   (λj q hq=>by have:=hy (j+1) q (by simpa using hq);grind) h2
  simp only[Nat.add_zero]at hv hu f2;have p1:=KG (P:=P) (w:=w) hz0 hv;have p2:=KG (P:=P) (w:=w) hz0 hu;have p3:=Ti d hz0 hvr hur h1;simp only[aN,f1,ne_eq,not_false_eq_true,if_true,f2,Sem.run_bind,p1,p2,p3,Result.andThen_ok];cases b1
  ·simp
  ·simpa using ih
theorem Jk{a:List C}{vs:List Value}(h:RepL (RepC ρ w Z) a vs)(j:Nat)(x:C)(e:a[j]? =some x): ∃v,vs.toArray[0+j]? =some v/\RepC ρ w Z x v:=by
 have b:j<vs.length:=by rw[<-h.1];grind
 exact⟨vs[j],by simp[b],h.2 j x _ e O1⟩
theorem jdf{i:TI}{info:TypeInfo}(g:TyOk P t i info d)(q:i.flat=true){k l:List C}{vs x:List Value}(r:RepL (RepC ρ w Z) k vs)(v:RepL (RepC ρ w Z) l x){b:Bool}(o:Ey i.zero k l=some b):
  (aJ 10000 t (.agg vs.toArray) (.agg x.toArray)).run P w= .ok b w/\P.eqGuardType P.depth t=false:=by
 have a:=g.flat q;unfold Mv at a;simp only[AR,Bool.not_eq_true']at a;obtain⟨F,a⟩:=a;refine⟨?_,F⟩;cases d<;>simp only[Bool.false_eq_true]at a
 case array n e=>
  simp only[AR,decide_eq_true_eq,jzy]at a;obtain⟨⟨rfl,E⟩,K⟩:=a;by_cases y:i.zero=[]
  ·rw[y]at o g;have J:k=[]:=by grind[Ey]
   have z:true=b:=by grind[Ey]
   have I:=g.und;subst z;cases hi:P.info? e with
   |none=>grind[Program.cellsOf]
   |some L=>
    rw[show(10000:Nat)=9999+1 from rfl,run_equalIn_array w 9999 _ _ I hi];simp[aL]
  ·cases hi:P.info? e with
   |none=>grind[Program.cellsOf]
   |some L=>
    rw[show(10000:Nat)=9999+1 from rfl,run_equalIn_array w 9999 _ _ g.und hi,E,List.range_eq_range'];exact TJ 9998 _ _ i.zero k l 0 b K (Jk r) (Jk v) o
 case struct m=>
  simp only[AR,Bool.not_eq_true',decide_eq_true_eq,jzy]at a;obtain⟨⟨H,G⟩,p⟩:=a;have h:P.fieldsOf t=m:=by simp[Program.fieldsOf,g.und]
  rw[show(10000:Nat)=9999+1 from rfl,run_equalIn_struct w 9999 t _ _ (by rw[h];exact g.und) H,h];refine Tg 9998 _ _ i.zero k l m.toList 0 b (by simpa using G) (λj f q=> ?_) (Jk r) (Jk v) o;have M:(f,j)∈m.toList.zipIdx:=by
   grind
  grind
end
end Go.Va
namespace Go.Va
open Op renaming maxDepth → aD, equalIn → aG, equal → aI
open _root_.Nat renaming add_assoc → aH, add_mul → aO
open _root_.List renaming getElem?_drop → aJ, getElem?_take → aN
open _root_.Bool renaming not_eq_true' → aL, false_eq_true → aM
open Go.RowKit
variable [DrC]
variable [Gv]
variable{t:TypeId}{o:Oper}{vs:List Value}
section
variable {P:Program} {T:AH} {M Z:Addr->Prop} {w0 w:World} {ρ:AE} {st:St} {a:Act}
theorem jaQ{b e:Array TypeId}{f:Bool}(a:P.underlying t=some (.func b e f))(d:Nat):(aG (d+1) t .nilFunc .nilFunc).run P w= .ok true w:=by
 simp[aG,run_underlying a]
theorem jfr{g h:Array TypeId}{i:Bool}(e:P.underlying t=some (.func g h i))(d:Nat)(f:Fn)(a b:Array Value):(aG (d+1) t (.func f a b) .nilFunc).run P w= .ok false w:=by
 simp[aG,run_underlying e]
theorem jiO{e:TypeId}(a:P.underlying t=some (.slice e))(d:Nat):(aG (d+1) t (.slice none 0 0) (.slice none 0 0)).run P w= .ok true w:=by
 simp[aG,run_underlying a]
theorem jfZ{e:TypeId}(a:P.underlying t=some (.slice e))(d:Nat)(b:Addr)(n c:Nat):(aG (d+1) t (.slice (some b) n c) (.slice none 0 0)).run P w= .ok false w:=by
 simp[aG,run_underlying a]
theorem jrO{ms}(a:P.underlying t=some (.interface ms))(d:Nat):(aG (d+1) t .nilIface .nilIface).run P w= .ok true w:=by
 simp[aG,run_underlying a]
theorem je8{ms}(a:P.underlying t=some (.interface ms))(d:Nat)(u:TypeId)(x:Value):(aG (d+1) t (.iface u x) .nilIface).run P w= .ok false w:=by
 simp[aG,run_underlying a]
theorem jcb(h:Rel M Z w0 ρ st a w)(J:Dk P T)(N: ∀d,o.dst=some d->d<a.tmps.size)(g:BinOp)(t Y:TypeId)(x y:Operand)(S:o.op= .binOp g t x y Y)(E:Ga y=true){l:St}
  (H:((st.evC x).bind λc=>(FO T g t c).map λv=>st.put o.dst v)=some l):StepOk P M Z w0 o l a w:=by
 have e:y= .const .nilIface:=by
  unfold Ga at E;split at E
  ·rfl
  ·cases E
 subst e;simp only[jzd,jze]at H;obtain⟨c,L,v,b,rfl⟩:=H;have m:=h.evC L;unfold FO at b;rw[jzd]at b;obtain⟨i,hi,b⟩:=b;obtain⟨info,d,X⟩:=Be (J t i hi);have k: ∀(u:Value) (q:Bool),a.eval x=u->(eqGuard g t x (.const .nilIface) u .nilIface).run P w= .ok () w->i.zero=[.d (.lit .nilIface)]->(if i.agg=true then none else GC g q)=some v->(∀ms,P.underlying t=some (.interface ms)->(GC g q=some v-> ∃z,(binOp g t u .nilIface).run P w= .ok z w/\RepV ρ w Z v z))->StepOk P M Z w0 o (st.put o.dst v) a w:=λu q j Q f b p=>by
  split at b
  case isTrue=>cases b
  case isFalse K=>
   obtain⟨ms,r⟩:=X.iface (by simpa using K) f;have I:a.eval (.const .nilIface)= .nilIface:=rfl;obtain⟨z,W,f⟩:=p ms r b;exact .val h N (x:=z) (by simp only[execOp,S,j,I,Sem.run_bind,Q,W,Result.andThen_ok,Sem.run_pure]) f
 split at b
 ·rename_i f;have j:a.eval x= .nilIface:=by
   generalize a.eval x=q at m;cases m;rfl
  refine k .nilIface true j (by simp_all[eqGuard]) f b λms r b=> ?_;unfold GC at b;split at b
  ·cases b;exact⟨.bool true,by simp_all[Go.binOp,aI,aD,jrO],.bool _⟩
  ·cases b;exact⟨.bool false,by simp_all[Go.binOp,aI,aD,jrO],.bool _⟩
  ·cases b
 ·rename_i f;obtain⟨F,G,j⟩: ∃F G,a.eval x= .iface F G:=by
   generalize a.eval x=q at m;cases m;simp
  refine k (.iface F G) false j (by simp_all[eqGuard]) f b λms r b=> ?_;unfold GC at b;split at b
  ·cases b;exact⟨.bool false,by simp_all[Go.binOp,aI,aD,je8],.bool _⟩
  ·cases b;exact⟨.bool true,by simp_all[Go.binOp,aI,aD,je8],.bool _⟩
  ·cases b
 ·cases b
theorem Qu(h:Rel M Z w0 ρ st a w)(hT:Dk P T)(hd: ∀d,o.dst=some d->d<a.tmps.size)(G:BinOp)(t t':TypeId)(x y:Operand)(ho:o.op= .binOp G t x y t'){K:St}
  (hs:((st.ev x).bind λp=>(st.ev y).bind λq=>(binV T G t p q).map λv=>st.put o.dst v)=some K):StepOk P M Z w0 o K a w:=by
 simp only[jzd,jze]at hs;obtain⟨p,hp,q,hq,v,l,rfl⟩:=hs;have r:=h.ev hp;have E:=h.ev hq;have z: ∀u:Value,(eqGuard G t x y (a.eval x) (a.eval y)).run P w= .ok () w->(binOp G t (a.eval x) (a.eval y)).run P w= .ok u w->RepV ρ w Z v u->StepOk P M Z w0 o (st.put o.dst v) a w:=λu H hr j=>
  .val h hd (x:=u) (by simp only[execOp,ho,Sem.run_bind,H,hr,Result.andThen_ok,Sem.run_pure]) j
 unfold binV at l;split at l
 ·rename_i k m k' n;generalize e:a.eval x=L at r;generalize f:a.eval y=Q at E;cases r;cases E;have H:(eqGuard G t x y (.int k m) (.int k' n)).run P w= .ok () w:=F7 (λI h=>by cases h) (λh=>by cases h);split at l
  ·obtain⟨u,j⟩:=PN (P:=P) (w:=w) (ρ:=ρ) (Z:=Z) (k':=k') (.inl rfl) l;exact z u (by rw[e,f];exact H) (by rw[e,f];exact(j t).1) (j t).2
  ·obtain⟨u,j⟩:=PN (P:=P) (w:=w) (ρ:=ρ) (Z:=Z) (k':=k') (.inr rfl) l;exact z u (by rw[e,f];exact H) (by rw[e,f];exact(j t).1) (j t).2
  ·rename_i n1 n2;split at l
   case isFalse=>cases l
   case isTrue hk=>
    subst hk;obtain⟨u,j⟩:=jfN (P:=P) (w:=w) (ρ:=ρ) (Z:=Z) ⟨n1,n2⟩ l;exact z u (by rw[e,f];exact H) (by rw[e,f];exact(j t).1) (j t).2
 ·rename_i s s';generalize e:a.eval x=L at r;generalize f:a.eval y=Q at E;cases r;cases E;obtain⟨u,j⟩:=jcY (P:=P) (w:=w) (ρ:=ρ) (Z:=Z) l;exact z u (by rw[e,f];exact F7 (λI h=>by cases h) (λh=>by cases h)) (by rw[e,f];exact(j t).1) (j t).2
 ·simp only[jzd]at l;obtain⟨i,hi,b,g,l⟩:=l;obtain⟨info,d,N⟩:=Be (hT t i hi);have key:(eqGuard G t x y (a.eval x) (a.eval y)).run P w= .ok () w/\(aG 10000 t (a.eval x) (a.eval y)).run P w= .ok b w/\
    (G= .eql->(binOp G t (a.eval x) (a.eval y)).run P w=((aG 10000 t (a.eval x) (a.eval y)).run P w).andThen λb w'=> .ok (.bool b) w')/\
    (G= .neq->(binOp G t (a.eval x) (a.eval y)).run P w=((aG 10000 t (a.eval x) (a.eval y)).run P w).andThen λb w'=> .ok (.bool (!b)) w'):=by
   unfold EJ at g;split at g
   ·rename_i c1 c2;split at g
    ·rename_i bb J;split at g
     case isTrue=>cases g
     case isFalse F=>
      have F:i.agg=false:=by simpa using F
      have j:=N.bool F J;split at g<;>cases g;generalize e:a.eval x=L at r;generalize f:a.eval y=Q at E;cases r;cases E;refine⟨F7 (λI h=>by cases h) (λh=>by cases h),by rw[show(10000:Nat)=9999+1 from rfl,run_equalIn_bool' w _ _ _ _ j];rfl,?_,?_⟩
      ·rintro rfl;simp[Go.binOp,aI,aD]
      ·rintro rfl;simp[Go.binOp,aI,aD]
    ·rename_i J;split at g
     case isTrue=>cases g
     case isFalse F=>
      have F:i.agg=false:=by simpa using F
      obtain⟨pp,rr,vv,j⟩:=N.func F J;split at g<;>cases g
      ·generalize e:a.eval x=L at r;generalize f:a.eval y=Q at E;cases r;cases E;refine⟨F7 (λI h=>by cases h) (λh=>by cases h),jaQ j 9999,?_,?_⟩
       ·rintro rfl;simp[Go.binOp,aI,aD]
       ·rintro rfl;simp[Go.binOp,aI,aD]
      ·generalize e:a.eval x=L at r;generalize f:a.eval y=Q at E;cases r;cases E;refine⟨F7 (λI h=>by cases h) (λh=>by cases h),jfr j 9999 _ _ _,?_,?_⟩
       ·rintro rfl;simp[Go.binOp,aI,aD]
       ·rintro rfl;simp[Go.binOp,aI,aD]
    ·rename_i J;split at g
     case isTrue=>cases g
     case isFalse F=>
      have F:i.agg=false:=by simpa using F
      obtain⟨ee,j⟩:=N.list F J;split at g
      ·cases g;have S:a.eval x= .slice none 0 0:=r;have W:a.eval y= .slice none 0 0:=E;rw[S,W];refine⟨F7 (λI h=>by cases h) (λh=>by cases h),jiO j 9999,?_,?_⟩
       ·rintro rfl;simp[Go.binOp,aI,aD]
       ·rintro rfl;simp[Go.binOp,aI,aD]
      ·rename_i n I;split at g
       case isTrue=>cases g
       case isFalse hn=>
        cases g;have W:a.eval y= .slice none 0 0:=E;obtain⟨b0,m0,c0,S⟩: ∃b m c,a.eval x= .slice (some b) m c:=by
         generalize e:a.eval x=L at r;cases r
         ·exact⟨_,_,_,rfl⟩
         ·exact absurd rfl hn
        rw[S,W];refine⟨F7 (λI h=>by cases h) (λh=>by cases h),jfZ j 9999 _ _ _,?_,?_⟩
        ·rintro rfl;simp[Go.binOp,aI,aD]
        ·rintro rfl;simp[Go.binOp,aI,aD]
      ·cases g
    ·cases g
   ·rename_i xs ys;split at g
    case isFalse=>cases g
    case isTrue hf=>
     obtain⟨vs,hvs,X⟩:=r;obtain⟨us,hus,Y⟩:=E;rw[hvs,hus];obtain⟨h1,h2⟩:=jdf (P:=P) (w:=w) N hf X Y g;refine⟨run_eqGuard_agg w G t x y _ _ h2,h1,?_,?_⟩
     ·rintro rfl;exact run_eql_struct w t _ _
     ·rintro rfl;exact run_neq_struct w t _ _
   ·cases g
  obtain⟨H,he,k1,k2⟩:=key;unfold GC at l;split at l<;>cases l
  ·exact z (.bool b) H (by simp_all) (DN _ _ _ _)
  ·exact z (.bool !b) H (by simp_all) (DN _ _ _ _)
theorem jhW(h:Rel M Z w0 ρ st a w)(i: ∀d,o.dst=some d->d<a.tmps.size)(t:TypeId)(x:Operand)(j:o.op= .unOp .not t x){e:St}
  (f:((st.evB x).map λb=>st.put o.dst (vB !b))=some e):StepOk P M Z w0 o e a w:=by
 simp only[jze]at f;obtain⟨b,g,rfl⟩:=f;exact .val h i (x:= .bool !b) (by simp[execOp,j,h.evB g,Op.unary]) (DN _ _ _ _)
theorem jjK(h:Rel M Z w0 ρ st a w)(f: ∀d,o.dst=some d->d<a.tmps.size)(t:TypeId)(x:Operand)(g:o.op= .unOp .neg t x){b:St}
  (e:((st.evI x).bind λp=>(DJ p.1 (0 - p.2)).map λv=>st.put o.dst v)=some b):StepOk P M Z w0 o b a w:=by
 simp only[jzd,jze]at e;obtain⟨p,i,v,j,rfl⟩:=e;rw[IF j];exact .val h f (x:= .int p.1 (p.1.wrap (0 - p.2))) (by simp[execOp,g,h.evI i,Op.unary,Op.intArith]) (B4 _ _ _ _ _)
theorem NX: ∀{cs:List D} {l:List Int},Iv cs=some l->cs=l.map (D.int .u8)
 |[],l,h=>by simp[Iv]at h;subst h;rfl
 |x::r,l,h=>by
  unfold Iv at h;split at h
  ·grind
  ·rename_i n e b;cases b;obtain⟨m,a,rfl⟩:=jze.1 h;rw[NX a];rfl
  ·cases h
theorem YU(h:Rel M Z w0 ρ st a w)(Q:Dk P T)(hd: ∀d,o.dst=some d->d<a.tmps.size)(s t:TypeId)(x:Operand)(ho:o.op= .convert s t x){N:St}
  (hs:((T s).bind λj=>(T t).bind λi=>(st.evC x).bind λc=>(convC T st.h j i c).map λv=>st.put o.dst v)=some N):StepOk P M Z w0 o N a w:=by
 simp only[jzd,jze]at hs;obtain⟨j,hj,i,hi,c,hc,v,f,rfl⟩:=hs;obtain⟨info,d,ht⟩:=Be (Q t i hi);obtain⟨info',d',I⟩:=Be (Q s j hj);have hr:=h.evC hc;unfold convC at f;split at f
 ·rename_i kk n;unfold LY at f;split at f
  case isTrue=>cases f
  case isFalse ha=>
   split at f<;>cases f;rename_i k _ hz;have hu:=ht.intKind (by simpa using ha) hz;generalize Y:a.eval x=vx at hr;cases hr;exact .val h hd (x:= .int k (k.wrap n)) (by simp[execOp,ho,Y,Go.convert,run_underlying I.und,run_underlying hu,Conv.intToInt]) (B4 _ _ _ _ _)
 ·rename_i b p n;split at f
  case isFalse=>cases f
  rename_i E;obtain⟨H,g,hn⟩:=E;simp only[jzd]at f;obtain⟨k,hk,f⟩:=f;split at f
  case h_2=>cases f
  rename_i cs app;split at f
  case isFalse=>cases f
  rename_i hlen;obtain⟨l,hl,rfl⟩:=jze.1 f;have L:=Ih ht H;unfold Un at g;split at g
  case h_2=>cases g
  rename_i e he;have hsu:=I.slice he;unfold jcf at g;split at g
  case h_2=>cases g
  rename_i te hte;simp only[AR,aL]at g;obtain⟨hta,K⟩:=g;obtain⟨infe,de,J⟩:=Be (Q e te hte);split at K
  case h_2=>cases K
  rename_i q hz;have W:=J.intKind hta hz;obtain⟨o2,ho2,hor⟩:=h.heap.rep b _ hk;obtain⟨q1,q2,q3,⟨q4,q4b⟩,q5⟩:=hor;obtain⟨z,ho3,hrm,hcase⟩:=hr;have:z=o2:=Bi (ho3.symm.trans ho2);subst this;have F:=NX hl;have G:l.length=n:=by
   have:=congrArg List.length F;simp[cut]at this;omega
  rcases hcase with⟨_,_,_,hn0⟩|⟨hnil,ad,c,X,hnc,hcm,r,_⟩
  ·omega
  ·have r:ad=z.at (p*z.sz):=r.resolve_left O;subst r;have y:(loadCells (z.at (p*z.sz)) n).run P w= .ok (l.map (Value.int .u8)).toArray w:=by
    have:=run_loadCells_list (P:=P) w (z.at (p*z.sz)) (l.map (Value.int .u8)) (λj v f=>by
     rw[X1,q1];simp only[Bf,jze]at f;obtain⟨m,hm,rfl⟩:=f;have hjn:j<n:=by rw[<-G];exact(jzg.1 hm).1
     have S:cs[p+j]? =some (.int .u8 m):=by
      have h1:(cut p n cs)[j]? =some (.int .u8 m):=by rw[F,Bf,hm];rfl
      simpa [cut,aN,hjn,aJ]using h1
     obtain⟨u,hu,hru⟩:=q5 _ _ S;cases hru;simpa [Own.at,aH]using hu)
    simpa [G]using this
   refine .val h hd (x:= .string (MM l)) ?_ (show RepC ρ w Z (.d (.str _)) _ from RepD.str _);simp[execOp,ho,X,Go.convert,run_underlying hsu,run_underlying L,run_underlying W,run_bytesToString w _ _ _ _ y,MM]
 ·cases f
theorem Xo{cs:List C}{ds:List D}(h:cs.mapM C.pure? =some ds)(e:RepL (RepC ρ w Z) cs vs):ds.length=vs.length/\ ∀(j:Nat) (x:D) (v:Value),ds[j]? =some x->vs[j]? =some v->RepD w (Ar ρ Z) x v:=by
 obtain⟨g,i⟩:=Dl h;refine⟨by rw[<-e.1];exact g,λj x v m l=> ?_⟩;have k:j<cs.length:=O3;obtain⟨y,f,a⟩:=i j cs[j] O1;rw[m]at f;cases f;have b:=e.2 j cs[j] v O1 l;generalize cs[j]=c at a b;cases c<;>simp only[C.pure?,Option.some.injEq,reduceCtorEq]at a
 ·subst a;exact b
 ·subst a;cases (show v=_ from b);exact .snil
theorem jgc(h:Rel M Z w0 ρ st a w)(r:Dk P T)(v: ∀d,o.dst=some d->d<a.tmps.size)(t:TypeId)(x:Operand)(z:o.op= .makeInterface t x){f:St}
  (m:((T t).bind λi=>(st.evU x).bind λu=>(ifaceOf i t u).map λc=>st.put o.dst (vC c))=some f):StepOk P M Z w0 o f a w:=by
 simp only[jzd,jze]at m;obtain⟨i,hi,u,F,c,b,rfl⟩:=m;obtain⟨info,d,p⟩:=Be (r t i hi);have E:=h.evU F;unfold ifaceOf at b;split at b
 case h_2=>cases b
 rename_i I;split at b
 case isFalse=>cases b
 rename_i e;obtain⟨l,j,rfl⟩:=jze.1 b;obtain⟨q,k,y⟩:=E;obtain⟨G,H⟩:=Xo j y;refine .val h v (x:= .iface t (.agg q.toArray)) ?_ (show RepC ρ w Z (.d (.iface t l)) _ from RepD.iface t l q G H);have g:=p.desc;cases d<;>simp only[Ct,AR,aL,aM,e]at g<;>simp[execOp,z,k,Instr.makeInterface,run_underlying p.und]<;>simp_all
theorem jiK(h:Rel M Z w0 ρ st a w)(W:Dk P T)(J: ∀d,o.dst=some d->d<a.tmps.size)(x:Operand)(xt t:TypeId)(K:o.op= .typeAssert x xt t true){r:St}
  (N:((T t).bind λi=>(st.evC x).bind λc=>(assertOf i t c).map λv=>st.put o.dst v)=some r):StepOk P M Z w0 o r a w:=by
 simp only[jzd,jze]at N;obtain⟨i,hi,c,E,v,b,rfl⟩:=N;obtain⟨info,d,k⟩:=Be (W t i hi);obtain⟨z,hz,q⟩:=k.zero;have L:=h.evC E;unfold assertOf at b;split at b
 case h_2=>cases b
 rename_i t' I;split at b
 case isFalse=>cases b
 rename_i l;obtain⟨g,Y⟩:=l;generalize p:a.eval x=vx at L;cases L;rename_i Q X S;have m:=k.desc;split at b
 ·rename_i e;subst e;cases b;refine .val h J (x:= .tuple #[.agg Q.toArray,.bool true]) ?_ ⟨[_,_],rfl,rfl,λj y v f b=> ?_⟩
  ·cases d<;>simp only[Ct,AR,aL,aM,g]at m<;>simp[execOp,K,p,Instr.typeAssert,run_underlying k.und]<;>simp_all
  ·match j,f,b with
   |0,f,b=>
    cases f;cases b;refine⟨Q,rfl,by simpa using X,λj c v E b=> ?_⟩;simp only[Bf,jze]at E;obtain⟨y,f,rfl⟩:=E;exact S j y v f b
   |1,f,b=>cases f;cases b;exact .bool _
 ·rename_i e;cases b;have H: ∃F:List Value,z= .agg F.toArray:=by
   have G:z.cells.size=i.size:=by
    have:=(Ep (ρ:=ρ) (w:=w) (Z:=Z) q).1;rw[k.zlen]at this;simpa using this.symm
   cases z with
   |agg I=>exact⟨I.toList,O1⟩
   |_=>simp[Value.cells]at G;omega
  obtain⟨F,rfl⟩:=H;refine .val h J (x:= .tuple #[.agg F.toArray,.bool false]) ?_ ⟨[_,_],rfl,rfl,λj y v f b=> ?_⟩
  ·cases d<;>simp only[Ct,AR,aL,aM,g]at m<;>simp[execOp,K,p,Instr.typeAssert,run_underlying k.und,zeroValue,typeInfo,k.inf,hz,e]<;>simp_all
  ·match j,f,b with
   |0,f,b=>
    cases f;cases b;exact⟨F,rfl,by simpa [Value.cells]using Ep (ρ:=ρ) (w:=w) (Z:=Z) q⟩
   |1,f,b=>cases f;cases b;exact .bool _
theorem U4(h:Rel M Z w0 ρ st a w)(k: ∀d,o.dst=some d->d<a.tmps.size)(x:Operand)(l:o.op= .nilCheck x){g:St}
  (t:((st.evC x).bind λc=>(nilChk c).map λc=>st.put o.dst (vC c))=some g):StepOk P M Z w0 o g a w:=by
 simp only[jzd,jze]at t;obtain⟨c,z,H,e,rfl⟩:=t;have f:=h.evC z;unfold nilChk at e;split at e<;>cases e
 ·obtain⟨F,m,E,r⟩:=f;exact .val h k (x:=a.eval x) (by simp[execOp,l,r]) ⟨F,m,E,r⟩
 ·generalize b:a.eval x=G at f;cases f with
  |ref _ q p v i j y=>exact .val h k (x:= .pointer (some q)) (by simp[execOp,l,b]) (RepD.ref _ q p v i j y)
 ·generalize b:a.eval x=G at f;cases f with
  |fn _ caps p i j=>exact .val h k (x:=a.eval x) (by simp[execOp,l,b]) (by rw[b];exact RepD.fn _ _ p i j)
theorem jgk(h:Rel M Z w0 ρ st a w)(W:Dk P T)(X: ∀d,o.dst=some d->d<a.tmps.size)(t:TypeId)(x:Operand)(f:Nat)(ho:o.op= .fieldAddr t x f){z:St}
  (g:((T t).bind λi=>(st.evC x).bind λc=>(i.flds[f]?).bind λp=>(T p.2).bind λj=>if j.size=0 then none else (fldAddr p.1 c).map λc=>st.put o.dst (vC c))=some z):StepOk P M Z w0 o z a w:=by
 simp only[jzd]at g;obtain⟨i,hi,c,hc,p,hp,j,hj,g⟩:=g;split at g
 case isTrue=>cases g
 case isFalse L=>
  rw[jze]at g;obtain⟨c',m,rfl⟩:=g;obtain⟨info,d,ht⟩:=Be (W t i hi);obtain⟨Y,dj,N⟩:=Be (W _ j hj);obtain⟨fs,fd,hu,G,v,Q⟩:=ht.field hp;have J:=h.evC hc;have l: ∀r:Addr,a.eval x= .pointer (some r)->(execOp a.eval o).run P w= .ok (.value (.pointer (some (r.add p.1)))) w:=λr E=>by
   have g:=N.sizeOf w;rw[<-Q]at g;simp[execOp,ho,Instr.fieldAt,run_underlying hu,G,Instr.sureAddr,E,fieldPlace,g,L,v]
  unfold fldAddr at m;split at m<;>cases m
  ·rename_i b off;obtain⟨ow,I,hn,E⟩:=J;refine .val h X (l _ E) ⟨ow,I,hn,?_⟩;simp[Own.at,X1,aH]
  ·rename_i S;generalize F:a.eval x=vx at J;cases J with
   |ref _ r vs h0 h1 h2 h3=>
    refine .val h X (l r F) ?_;by_cases H:p.1<S.length
    ·have K:=h0 (λe=>by subst e;simp at H);rw[Il r p.1 K];refine RepD.ref _ _ (λq=>vs (p.1+q)) (λ_=>rfl) ?_ ?_ ?_
     all_goals
      intro q y k;rw[aJ]at k
     ·have:=h1 _ y k;simpa [aH]using this
     ·have:=h2 _ y k;simpa [aH]using this
     ·exact h3 _ y k
    ·have:S.drop p.1=[]:=List.drop_eq_nil_of_le O;rw[this];exact RepD.ref [] _ (λ_=>undef) (λh=>absurd rfl h) (λq y k=>by simp at k) (λq y k=>by simp at k) (λq y k=>by simp at k)
theorem Qx(h:Rel M Z w0 ρ st a w){b sz:Nat}(e:isRow st.h b sz=true){o:Own}(m:ρ b=some o):o.sz=sz:=by
 unfold isRow at e;split at e
 ·rename_i l k app f;obtain⟨j,g,i⟩:=h.heap.rep b _ f;obtain rfl:j=o:=O3;rw[i.1];simpa using e
 ·rename_i k f;obtain⟨j,g,i⟩:=h.heap.rep b _ f;obtain rfl:j=o:=O3;rw[i.1];grind
 ·cases e
theorem jgX(h:Rel M Z w0 ρ st a w)(hT:Dk P T)(hd: ∀d,o.dst=some d->d<a.tmps.size)(t:TypeId)(x y:Operand)(ho:o.op= .indexAddr t x y){Y:St}
  (hs:((T t).bind λti=>(st.evC x).bind λc=>(st.evI y).bind λn=>(idxAddr T st.h ti n.2 c).map λc=>st.put o.dst (vC c))=some Y):StepOk P M Z w0 o Y a w:=by
 simp only[jzd,jze]at hs;obtain⟨i,hi,c,hc,⟨kn,n⟩,hn,c',f,rfl⟩:=hs;obtain⟨info,d,ht⟩:=Be (hT t i hi);have N:=h.evC hc;have r:=h.evI hn;simp only at r f;unfold idxAddr at f;split at f
 ·rename_i m e z;rw[jzd]at f;obtain⟨j,hj,f⟩:=f;obtain⟨S,dj,L⟩:=Be (hT _ j hj);have hu:=ht.array z;have g: ∀k:Addr,a.eval x= .pointer (some k)->0<=n/\n<m->(execOp a.eval o).run P w= .ok (.value (.pointer (some (k.add (n.toNat*j.size))))) w:=λk G p=>by
   simp[execOp,ho,Instr.indexAt,r,asIntOf,run_underlying hu,Instr.sureAddr,G,p.1,p.2,L.sizeOf]
  unfold idxArr at f;split at f
  ·split at f<;>cases f;rename_i b W p;obtain⟨X,v,J,G⟩:=N;refine .val h hd (g _ G p) ⟨X,v,J,?_⟩;simp[Own.at,X1,aH]
  ·split at f<;>cases f;rename_i Q p;generalize H:a.eval x=vx at N;cases N with
   |ref _ k vs h0 h1 h2 h3=>
    refine .val h hd (g k H p) ?_;by_cases I:n.toNat*j.size<Q.length
    ·have K:=h0 (λe=>by subst e;simp at I);rw[Il k _ K];refine RepD.ref _ _ (λq=>vs (n.toNat*j.size+q)) (λ_=>rfl) ?_ ?_ ?_
     all_goals
      intro q y r;rw[aJ]at r
     ·grind
     ·grind
     ·exact h3 _ y r
    ·have:Q.drop (n.toNat*j.size)=[]:=(by simp_all)
     rw[this];exact RepD.ref [] _ (λ_=>undef) O1 O1 O1 (λq y r=>by simp at r)
  ·cases f
 ·rename_i z;simp only[jzd]at f;obtain⟨e,G,j,hj,f⟩:=f;obtain⟨S,dj,L⟩:=Be (hT _ j hj);have hu:=ht.slice G;have g: ∀(k:Addr) (l cap:Nat),a.eval x= .slice (some k) l cap->0<=n/\n<l->(execOp a.eval o).run P w= .ok (.value (.pointer (some (k.add (n.toNat*j.size))))) w:=λk l cap G p=>by
   simp[execOp,ho,Instr.indexAt,r,asIntOf,run_underlying hu,G,p.1,p.2,L.sizeOf]
  unfold idxSl at f;split at f
  ·split at f<;>cases f;rename_i b W l p;obtain⟨E,F,hbr⟩:=p;obtain⟨X,v,hroom,hcase⟩:=N;have hosz:=Qx h hbr v;rcases hcase with⟨_,_,_,h0⟩|⟨J,k,cap,he2,hnc,hcm,had,_⟩
   ·omega
   ·refine .val h hd (g k l cap he2 ⟨E,F⟩) ⟨X,v,J,?_⟩;have hae:k=X.at (W*X.sz):=by
     grind
    simp_all[Own.at,X1,aO,aH]
  ·split at f<;>cases f;rename_i l Q p;obtain⟨E,F,hcl⟩:=p;generalize H:a.eval x=vx at N;cases N with
   |snil=>omega
   |slice _ _ k cap vs h0 hnc hcm h1 h2 h3=>
    refine .val h hd (g k l cap H ⟨E,F⟩) ?_;by_cases I:n.toNat*j.size<Q.length
    ·have K:=h0 (λe=>by subst e;simp at I);rw[Il k _ K];refine RepD.ref _ _ (λq=>vs (n.toNat*j.size+q)) (λ_=>rfl) ?_ ?_ ?_
     all_goals
      intro q y r;rw[aJ]at r
     ·grind
     ·grind
     ·exact h3 _ y r
    ·have:Q.drop (n.toNat*j.size)=[]:=(by simp_all)
     rw[this];exact RepD.ref [] _ (λ_=>undef) O1 O1 O1 O1
  ·cases f
theorem Kv{n:Nat}{lo hi:Option Int}{k:Nat->Nat->C}{c:C}(h:Gb n lo hi k=some c): ∃l m:Nat,c=k l m/\l+m<=n/\lo.getD 0=(l:Int)/\hi.getD n=((l+m:Nat):Int):=by
 unfold Gb at h;grind
theorem V5(e:Bool)(n c l m:Nat)(lo hi:Option Value)(b:(lo=none/\l=0)\/ ∃k,lo=some (.int k l))(a:(hi=none/\l+m=n)\/ ∃k,hi=some (.int k ((l+m:Nat):Int)))(i:l+m<=c):
  (Instr.sliceBounds e n c lo hi none).run P w= .ok (l,l+m,c) w:=by
 rcases a with⟨rfl,rfl⟩|⟨k,rfl⟩<;>rcases b with⟨rfl,rfl⟩|⟨j,rfl⟩
 ·rfl
 ·simp[Instr.sliceBounds,Instr.sliceBound,asIntOf]
 ·simp_all[Instr.sliceBounds,Instr.sliceBound,asIntOf]
 ·have f:((l:Int)+(m:Int)<=(c:Int)):=O;have g:(0:Int)<=(l:Int)+(m:Int):=O;have h:((l:Int)+(m:Int)).toNat=l+m:=O;simp_all[Instr.sliceBounds,Instr.sliceBound,asIntOf]
theorem LU(h:Rel M Z w0 ρ st a w){x:Option Operand}{v:Option Int}(b:st.evO x=some v):(x.map a.eval=none/\v=none)\/ ∃k n,x.map a.eval=some (.int k n)/\v=some n:=by
 cases x with
 |none=>cases b;simp
 |some x=>
  simp only[St.evO,jze]at b;obtain⟨p,e,rfl⟩:=b;exact .inr ⟨p.1,p.2,by simp[h.evI e],rfl⟩
theorem jeR(h:Rel M Z w0 ρ st a w)(hT:Dk P T)(hd: ∀d,o.dst=some d->d<a.tmps.size)(t:TypeId)(x:Operand)(lo hi:Option Operand)(ho:o.op= .slice t x lo hi none){st':St}
  (hs:((T t).bind λi=>(st.evC x).bind λc=>(st.evO lo).bind λl=>(st.evO hi).bind λh=>
   (match i.sl with|some e=>(T e).bind λj=>sliceV st.h c l h j.size|none=>if Ce i then sliceS c l h else none).map λv=>st.put o.dst (vC v))=some st'):StepOk P M Z w0 o st' a w:=by
 simp only[jzd,jze]at hs;obtain⟨i,hti,c,hc,lo',hlo,hi',hhi,c',f,rfl⟩:=hs;obtain⟨info,d,ht⟩:=Be (hT t i hti);have hr:=h.evC hc;have bnd: ∀(X:Bool) {n c l m:Nat},lo'.getD 0=(l:Int)->hi'.getD n=((l+m:Nat):Int)->l+m<=c->(Instr.sliceBounds X n c (lo.map a.eval) (hi.map a.eval) none).run P w= .ok (l,l+m,c) w:=λX {n c l m} h1 h2 h3=>by
  refine V5 X n c l m _ _ ?_ ?_ h3
  ·rcases LU h hlo with⟨z,rfl⟩|⟨k,q,z,rfl⟩
   ·grind
   grind
  ·rcases LU h hhi with⟨z,rfl⟩|⟨k,q,z,rfl⟩
   ·grind
   grind
 split at f
 ·rename_i e he;rw[jzd]at f;obtain⟨j,hj,f⟩:=f;obtain⟨infj,dj,htj⟩:=Be (hT _ j hj);have hu:=ht.slice he;have g: ∀{A:Option Addr} {n cap l m:Nat},a.eval x= .slice A n cap->lo'.getD 0=(l:Int)->hi'.getD n=((l+m:Nat):Int)->l+m<=cap->
    (execOp a.eval o).run P w= .ok (.value (.slice (if cap=l then A else A.map (·.add (l*j.size))) m (cap - l))) w:=λ{A n cap l m} F h1 h2 h3=>by
   have hb:=bnd true h1 h2 h3;simp[execOp,ho,Instr.sliceAt,Instr.slice,run_underlying hu,F,hb,htj.sizeOf]
  unfold sliceV at f;split at f
  ·split at f
   case isFalse=>cases f
   case isTrue hrow=>
    rename_i b off n;obtain⟨l,m,rfl,K,z,H⟩:=Kv f;obtain⟨ow,W,hroom,hcase⟩:=hr;have hosz:=Qx h hrow W;rcases hcase with⟨S,F,rfl,rfl⟩|⟨S,Y,cap,F,hnc,hcm,had,L⟩
    ·have G:l=0:=O;have p:m=0:=O;subst G;subst p;exact .val h hd (g F z H O) ⟨ow,W,O,.inl ⟨S,O1,O,rfl⟩⟩
    ·refine .val h hd (g F z H O) ⟨ow,W,O,.inr ⟨S,?_⟩⟩;by_cases I:cap=l
     ·refine⟨Y,cap - l,by simp[I],O,O,.inl O,λhh=>by have:=L hh;omega⟩
     ·refine⟨Y.add (l*j.size),cap - l,by simp[I],O,O,.inr ?_,λhh=>by have:=L hh;omega⟩;have hae:Y=ow.at (off*ow.sz):=by
       rcases had with h0|h1
       ·omega
       ·exact h1
      subst hae;simp only[Own.at,X1,hosz,aO,aH]
  ·obtain⟨l,m,rfl,K,z,H⟩:=Kv f;have G:l=0:=O;have p:m=0:=O;subst G;subst p;exact .val h hd (g hr z H O) O5
  ·split at f
   case isFalse=>cases f
   case isTrue I=>
    rename_i n cs;obtain⟨l,m,rfl,K,z,H⟩:=Kv f;generalize J:a.eval x=vx at hr;cases hr with
    |snil=>
     have G:l=0:=O;have p:m=0:=O;subst G;subst p;refine .val h hd (g J z H O) ?_;simp only[cut,Nat.zero_mul,List.take_zero,List.drop_nil,ite_self,Option.map_none,Nat.sub_zero];exact RepD.snil
    |slice _ _ Y cap vs h0 hnc hcm h1 h2 h3=>
     refine .val h hd (g J z H O) ?_;have r:m=0\/j.size=0->cut (l*j.size) (m*j.size) cs=[]:=λh=>by
      rcases h with rfl|h
      ·simp[cut]
      ·simp[cut,h]
     have mkn: ∀Q:Addr,(cut (l*j.size) (m*j.size) cs=[])->RepD w (Ar ρ Z) (.slice m (cut (l*j.size) (m*j.size) cs)) (.slice (some Q) m (cap - l)):=λQ he=>by
      rw[he];exact .slice m [] Q _ (λ_=>undef) (λh=>absurd rfl h) O O (λq y E=>by simp at E) (λq y E=>by simp at E) (λq y E=>by simp at E)
     by_cases N:cap=l
     ·have p:m=0:=O;rw[if_pos N];exact mkn Y (r (.inl p))
     ·rw[if_neg N];simp only[Option.map_some];by_cases hz:m=0\/j.size=0
      ·exact mkn _ (r hz)
      ·have hcne:cs≠[]:=λe=>by
        subst e;have h0:n*j.size=0:=I.symm;rcases Nat.mul_eq_zero.1 h0 with h|h<;>omega
       have hsp:=h0 hcne;rw[Il Y _ hsp];refine RepD.slice m _ _ (cap - l) (λq=>vs (l*j.size+q)) (λ_=>rfl) O O ?_ ?_ ?_
       all_goals
        intro q y E;rw[getElem?_cut]at E;split at E<;>try (cases E;done)
       ·have:=h1 _ y E;simpa [aH]using this
       ·have:=h2 _ y E;simpa [aH]using this
       ·exact h3 _ y E
  ·cases f
 ·rename_i hsl;split at f
  case isFalse=>cases f
  case isTrue hstr=>
   have hu:=Ih ht hstr;unfold sliceS at f;split at f
   ·rename_i s;obtain⟨l,m,rfl,K,z,H⟩:=Kv f;generalize J:a.eval x=vx at hr;cases hr;have hb:=bnd false z H K;exact .val h hd (x:= .string (s.extract l (l+m))) (by simp[execOp,ho,Instr.sliceAt,Instr.slice,run_underlying hu,J,hb]) (RepD.str _)
   ·cases f
theorem QJ{i:TI}{info:TypeInfo}{d:TypeDesc}(f:TyOk P t i info d){off:Nat}{cs:List C}{u:U}(h:part i off cs=some u)(a:RepL (RepC ρ w Z) cs vs): ∃v,(Go.part t vs.toArray off).run P w= .ok v w/\RepU ρ w Z u v:=by
 unfold Va.part at h;split at h
 ·rename_i e;split at h<;>cases h;rename_i j;refine⟨.agg ((vs.drop off).take i.size).toArray,?_,(vs.drop off).take i.size,rfl,?_⟩
  ·have m:vs.toArray.extract off (off+i.size)=((vs.drop off).take i.size).toArray:=by
    simp
   simp[Go.part,f.isAgg,e,f.sizeOf,m]
  ·have k:=a.1;refine⟨by simp[cut,k],λq x v b g=> ?_⟩;rw[getElem?_cut]at b;rw[aN,aJ]at g;split at b<;>try (cases b;done)
   rw[if_pos ‹_›]at g;exact a.2 _ x v b g
 ·rename_i e;rw[jze]at h;obtain⟨c,l,rfl⟩:=h;have j:off<vs.length:=by rw[<-a.1];grind
  exact⟨vs[off],by simp[Go.part,f.isAgg,e,j],a.2 off c _ l O1⟩
theorem jd5(h:Rel M Z w0 ρ st a w)(r:Dk P T)(F: ∀d,o.dst=some d->d<a.tmps.size)(t:TypeId)(x:Operand)(f:Nat)(ho:o.op= .field t x f){k:St}
  (y:((T t).bind λi=>(st.evU x).bind λu=>(fieldOf T i f u).map λu=>st.put o.dst (.u u))=some k):StepOk P M Z w0 o k a w:=by
 simp only[jzd,jze]at y;obtain⟨i,hi,u,N,u',b,rfl⟩:=y;obtain⟨info,d,L⟩:=Be (r t i hi);have K:=h.evU N;unfold fieldOf at b;split at b
 ·simp only[jzd]at b;obtain⟨p,J,j,H,e⟩:=b;obtain⟨E,W,m⟩:=Be (r _ j H);obtain⟨Y,X,z,G,g,q⟩:=L.field J;obtain⟨vs,S,I⟩:=K;obtain⟨v,Q,l⟩:=QJ (P:=P) m e I;rw[<-q,<-g]at Q;exact .val h F (x:=v) (by simp_all[execOp,Instr.field,run_underlying,asAgg]) l
 ·cases b
theorem jeN(h:Rel M Z w0 ρ st a w)(G:Dk P T)(H: ∀d,o.dst=some d->d<a.tmps.size)(t:TypeId)(x y:Operand)(I:o.op= .index t x y){l:St}
  (J:((T t).bind λti=>(st.evU x).bind λu=>(st.evI y).bind λn=>(indexOf T ti n.2 u).map λu=>st.put o.dst (.u u))=some l):StepOk P M Z w0 o l a w:=by
 simp only[jzd,jze]at J;obtain⟨i,hi,u,Y,⟨kn,n⟩,W,u',b,rfl⟩:=J;obtain⟨info,d,K⟩:=Be (G t i hi);have r:=h.evU Y;have F:=h.evI W;simp only at F b;unfold indexOf at b;split at b
 ·simp only[jzd]at b;obtain⟨⟨m,e⟩,X,j,Q,b⟩:=b;split at b
  case isFalse=>cases b
  case isTrue g=>
   obtain⟨L,dj,k⟩:=Be (G _ j Q);have f:=K.array X;obtain⟨vs,E,S⟩:=r;obtain⟨v,hv,z⟩:=QJ (P:=P) k b S;exact .val h H (x:=v) (by simp[execOp,I,E,F,Instr.index,asIntOf,run_underlying f,g.1,g.2,k.sizeOf,hv]) z
 ·rename_i s;split at b
  case isFalse=>cases b
  case isTrue g=>
   rw[jze]at b;obtain⟨N,p,rfl⟩:=b;have f:=Ih K g.1;generalize q:a.eval x=vx at r;cases r;exact .val h H (x:= .int .u8 N.toNat) (by simp[execOp,I,q,F,Instr.index,asIntOf,run_underlying f,g.2.1,p]) (B4 _ _ _ _ _)
 ·cases b
theorem VS(h:Rel M Z w0 ρ st a w)(k: ∀d,o.dst=some d->d<a.tmps.size)(x:Operand)(i:Nat)(q:o.op= .extract x i){b:St}
  (g:((st.ev x).bind λv=>(tupAt i v).map λu=>st.put o.dst (.u u))=some b):StepOk P M Z w0 o b a w:=by
 simp only[jzd,jze]at g;obtain⟨v,m,u,e,rfl⟩:=g;have l:=h.ev m;unfold tupAt at e;split at e
 ·obtain⟨j,p,f⟩:=l;have hi:i<j.length:=by rw[<-f.1];grind
  exact .val h k (x:=j[i]) (by simp_all[execOp,Instr.extract]) (f.2 i u _ e O1)
 ·cases e
theorem Pt(h:Rel M Z w0 ρ st a w): ∀{g:List Operand} {cs:List C},g.mapM st.evC=some cs->RepL (RepC ρ w Z) cs (g.map a.eval)
 |[],cs,b=>by simp at b;subst b;exact⟨rfl,O1⟩
 |x::g,cs,b=>by
  simp only[List.mapM_cons,Option.pure_def,Option.bind_eq_bind,jzd,Option.some.injEq]at b;obtain⟨c,e,l,f,rfl⟩:=b;obtain⟨m,o⟩:=Pt h f;refine⟨by simpa using m,λj y v k i=> ?_⟩;cases j with
  |zero=>simp at k i;subst k;subst i;exact h.evC e
  |succ j=>grind
theorem ZY(h:Rel M Z w0 ρ st a w)(J: ∀d,o.dst=some d->d<a.tmps.size)(f:FuncId)(first b:Array Operand)(q:o.op= .makeFunc (.func f) first b){e:St}
  (g:(if first.toList=[] then (b.toList.mapM st.evC).map λcs=>st.put o.dst (.u (clo st.h f cs)) else none)=some e):StepOk P M Z w0 o e a w:=by
 split at g
 case isFalse=>cases g
 case isTrue l=>
  simp only[jze]at g;obtain⟨cs,i,rfl⟩:=g;have p:=Pt h i;have m:first= #[]:=by apply Array.ext';simpa using l
  have G:b.map a.eval=(b.toList.map a.eval).toArray:=by apply Array.ext';simp
  refine .val h J (x:= .func (.func f) #[] (b.toList.map a.eval).toArray) (by simp[execOp,q,Instr.makeFunc,m,G]) ?_;unfold clo;split
  ·rename_i F k;obtain⟨E,N⟩:=Dl k;refine RepD.fn f F _ (E.trans p.1) λj x v t K=> ?_;have r:j<cs.length:=by rw[<-E];exact(jzg.1 t).1
   obtain⟨y,z,l⟩:=N j _ (AD r);rw[t]at z;cases z;exact(EP h _ 4 _ v _ (p.2 j _ v (AD r) K) l).keep (Keep.mono λQ q=>by
    rcases q with L|⟨j,o,H,I⟩
    ·exact .inl L
    ·exact .inr ⟨j,o,by simpa [ersd]using H,I⟩)
  ·exact⟨_,rfl,p⟩
theorem jhl(h:Rel M Z w0 ρ st a w)(j:Dk P T){o:Oper}(l: ∀d,o.dst=some d->d<a.tmps.size)(t:TypeId)(x:Operand)(p:o.op= .call { callee:= .builtin .cap,args:= #[x],argTypes:= #[t] }){f:St}
  (b:((T t).bind λi=>Ko i o.dst st x)=some f):StepOk P M Z w0 o f a w:=by
 rw[jzd]at b;obtain⟨i,hi,b⟩:=b;obtain⟨info,d,q⟩:=Be (j t i hi);unfold Ko at b;split at b
 case isFalse=>cases b
 rename_i g;obtain⟨e,m⟩:=Option.isSome_iff_exists.1 g;have r:=q.slice m;split at b<;>cases b;rename_i k;have v:a.eval x= .slice none 0 0:=h.evC k;exact .val h l (x:= .int .i64 0) (by simp[execOp,p,resolve,invoke,builtin,Builtin.cap_,run_underlying r,v,goInt]) (B4 _ _ _ _ _)
theorem jj7(h:Rel M Z w0 ρ st a w)(E:Dk P T){o:Oper}(m: ∀d,o.dst=some d->d<a.tmps.size)(t:TypeId)(x:Operand)(H:o.op= .call { callee:= .builtin .len,args:= #[x],argTypes:= #[t] }){l:St}
  (f:((T t).bind λi=>G3 i o.dst st x)=some l):StepOk P M Z w0 o l a w:=by
 rw[jzd]at f;obtain⟨i,hi,f⟩:=f;obtain⟨info,d,r⟩:=Be (E t i hi);unfold G3 at f;split at f
 ·rename_i n e j;cases f;have v:=r.array j;exact .val h m (x:= .int .i64 n) (by simp_all[execOp,resolve,invoke,builtin,Builtin.len_,run_underlying,goInt]) (B4 _ _ _ _ _)
 ·simp only[jzd,jze]at f;obtain⟨c,F,n,b,rfl⟩:=f;have g:=h.evC F;split at b
  ·rename_i q;obtain⟨e,G⟩:=Option.isSome_iff_exists.1 q;have v:=r.slice G;have y: ∃A cap,a.eval x= .slice A n cap:=by
    unfold lenC at b;split at b<;>cases b
    ·exact⟨none,0,g⟩
    ·obtain⟨L,I,_,⟨_,z,_,rfl⟩|⟨_,K,cap,z,_⟩⟩:=g
     ·grind
     grind
    ·generalize a.eval x=J at g;cases g with
     |snil=>simp
     |slice=>simp
   obtain⟨A,cap,y⟩:=y;exact .val h m (x:= .int .i64 n) (by simp_all[execOp,resolve,invoke,builtin,Builtin.len_,run_underlying,goInt]) (B4 _ _ _ _ _)
  ·split at b
   case isFalse=>cases b
   case isTrue k=>
    have v:=Ih r k;unfold lenS at b;split at b<;>cases b;generalize p:a.eval x=J at g;cases g;exact .val h m (x:= .int .i64 _) (by simp[execOp,H,resolve,invoke,builtin,Builtin.len_,run_underlying v,p,goInt]<;>rfl) (B4 _ _ _ _ _)
end
end Go.Va
namespace Go.Va
open Go.RowKit
variable [DrC]
variable [Gv]
variable{t:TypeId}{g:Nat}{k:Ky}{c:C}{o:Oper}
section
variable {P:Program} {w:World}
theorem jeL(t:TypeId):(Instr.makeMap t none).run P w= .ok (.map (some w.heap.size)) (w.alloc (.map #[] 0)):=rfl
theorem jgp(a:P.underlying t=some .string)(s:ByteArray):(Instr.range t (.string s)).run P w= .ok (.pointer (some ⟨w.heap.size,0,none⟩)) (w.alloc (.stringIter s 0)):=by
 simp[Instr.range,run_underlying a,newObj];rfl
theorem jbC{s:ByteArray}{p:Nat}(h:w.heap[g]? =some (.stringIter s p))(a: ¬p<s.size):(Instr.next (.pointer (some ⟨g,0,none⟩)) true t).run P w= .ok (.tuple #[.bool false]) w:=by
 simp[Instr.next,getObj,Sem.run,h,a]
theorem jab{s:ByteArray}{p:Nat}(h:w.heap[g]? =some (.stringIter s p))(a:p<s.size):
  (Instr.next (.pointer (some ⟨g,0,none⟩)) true t).run P w= .ok (.tuple #[.bool true,.int .i64 p,.int .i32 (Utf8.decode s p).1]) { w with heap:=w.heap.setIfInBounds g (.stringIter s (p+(Utf8.decode s p).2)) }:=by
 simp_all[Instr.next,getObj,setObj,Sem.run,goInt]
def Do:Bool->TypeDesc
 |false=> .string
 |true=> .int .i64
theorem KP{b:Bool}(f:P.underlying t=some (Do b))(e:Bool)(n:Nat)(a:k.num=b):(Instr.checkKey e (n+1) t k.v).run P w= .ok () w:=by
 cases k<;>cases a<;>simp[Instr.checkKey,run_underlying f,Do,Ky.v,Ky.num]
theorem Xl{a:Ky}(h:a.num=k.num):Instr.sameNow (Do k.num) k.v a.v=some (D6 k a):=by
 cases k<;>cases a<;>first|(cases h;done)|rfl
theorem M7(k:Ky): ∀(L:List MapEntry) (b:List (Ky×Int)) (i:Nat),L.map (λe=>(e.key,e.val))=b.map Ee->b.all (λe=>e.1.num==k.num)=true->Instr.findNow (Do k.num) k.v L i=some ((B5 k b i).map λp=>(p.1,.int .i64 p.2))
 |[],[],i,_,_=>rfl
 |[],_::_,_,h,_=>by simp at h
 |_::_,[],_,h,_=>by simp at h
 |e::L,(a,v)::b,i,h,f=>by
  simp only[List.map_cons,List.cons.injEq,Ee,Prod.mk.injEq]at h;simp only[List.all_cons,AR,beq_iff_eq]at f;obtain⟨⟨j,l⟩,g⟩:=h;have m:=M7 k L b (i+1) g (by simpa using f.2);grind[Instr.findNow,B5,Xl,D6]
def Gs(c:Bool)(a:List (Ky×Int))(k:Ky):Value:=if c then .tuple #[.int .i64 (((B5 k a 0).map (·.2)).getD 0),.bool (B5 k a 0).isSome] else .int .i64 (((B5 k a 0).map (·.2)).getD 0)
theorem jfw{x q:TypeId}{b:Bool}(r:P.underlying t=some (.map x q))(m:P.underlying x=some (Do b))(E: ∀w,(zeroValue q).run P w= .ok (.int .i64 0) w){arr:Array MapEntry}{c:Nat}{f:List (Ky×Int)}
  (z:w.heap[g]? =some (.map arr c)) (y:arr.toList.map (λe=>(e.key,e.val))=f.map Ee)  (o:k.num=b) (h:f.all (λe=>e.1.num==b)=true) (j:Bool):
  (Instr.lookup t (.map (some g)) k.v j).run P w= .ok (Gs j f k) w:=by
 subst o;have l:=M7 k arr.toList f 0 y h;have i:(getObj g).run P w= .ok (.map arr c) w:=by simp[getObj,Sem.run,z]
 cases a:B5 k f 0 with
 |none=>
  rw[a]at l;cases j<;>simp[Instr.lookup,run_underlying r,i,KP m _ _ rfl,Instr.findKey,run_underlying m,l,E,Gs,a]
 |some p=>
  rw[a]at l;cases j<;>simp[Instr.lookup,run_underlying r,i,KP m _ _ rfl,Instr.findKey,run_underlying m,l,Gs,a]
theorem Qo{a b:ByteArray}(h:(a==b)=true):a=b:=by
 obtain⟨x⟩:=a;obtain⟨y⟩:=b;have e:x=y:=by simpa using (show(x==y)=true from h)
 rw[e]
theorem Qg(a:ByteArray):(a==a)=true:=by
 obtain⟨x⟩:=a;show(x==x)=true;simp
theorem Tt{a b:Ky}(h:D6 a b=true):a=b:=by
 cases a<;>cases b<;>simp only[D6,Bool.false_eq_true]at h
 ·rw[Qo h]
 grind
theorem TK{k:Ky}: ∀{b:List (Ky×Int)} {i j:Nat} {v:Int},B5 k b i=some (j,v)->i<=j/\b[j - i]? =some (k,v)
 |[],i,j,v,h=>by cases h
 |(a,u)::r,i,j,v,h=>by
  unfold B5 at h;split at h
  ·rename_i e;cases h;have:k=a:=Tt e;grind
  ·obtain⟨f,g⟩:=TK h;grind
theorem XZ{K M:TypeId}{b:Bool}(J:P.underlying t=some (.map K M))(z:P.underlying K=some (Do b)){arr:Array MapEntry}{c:Nat}{h:List (Ky×Int)}
  (Q:w.heap[g]? =some (.map arr c)) (x:arr.toList.map (λe=>(e.key,e.val))=h.map Ee)  (G:k.num=b) (l:h.all (λe=>e.1.num==b)=true) (v:Int):
  ∃a L,(Instr.mapUpdate t (.map (some g)) k.v (.int .i64 v)).run P w= .ok () { w with heap:=w.heap.setIfInBounds g (.map a L) }/\a.toList.map (λe=>(e.key,e.val))=(GY k v h).map Ee:=by
 subst G;have y:=M7 k arr.toList h 0 x l;have q:(getObj g).run P w= .ok (.map arr c) w:=by simp[getObj,Sem.run,Q]
 have r: ∀o,(setObj g o).run P w= .ok () { w with heap:=w.heap.setIfInBounds g o }:=(by grind[setObj,Sem.run])
 unfold GY;cases f:B5 k h 0 with
 |none=>
  rw[f]at y;refine⟨_,_,by simp[Instr.mapUpdate,run_underlying J,q,KP z _ _ rfl,Instr.findKey,run_underlying z,y,r];rfl,?_⟩;simp[x,Ee]
 |some p=>
  rw[f]at y;obtain⟨i,u⟩:=p;obtain⟨_,hi⟩:=TK f;simp only[Nat.sub_zero]at hi;have I:(arr.toList.map λe=>(e.key,e.val))[i]? =some (k.v,.int .i64 u):=by rw[x,Bf,hi];rfl
  rw[Bf,jze]at I;obtain⟨e,F,N⟩:=I;have m:e.key=k.v:=O3;have E:arr[i]? =some e:=by simpa using F
  have H:(Instr.keyThatStays k.v k.v).run P w= .ok k.v w:=by
   cases k<;>simp[Instr.keyThatStays,Instr.sameBits,Qg,Ky.v]
  refine⟨arr.modify i λe=>{ e with key:=k.v,val:= .int .i64 v },c,by simp[Instr.mapUpdate,run_underlying J,q,KP z _ _ rfl,Instr.findKey,run_underlying z,y,r,E,m,H],?_⟩;refine List.ext_getElem? λj=> ?_;have S:(arr.toList.map λe=>(e.key,e.val))[j]? =(h.map Ee)[j]? :=by rw[x]
  grind[Array.toList_modify,Ee]
theorem jcM{a:TypeId}(h:(match P.info? a with|some info=>(match info.zero with|some (.int .i64 n)=>decide (n=0)|_=>false)|none=>false)=true)(w:World):(zeroValue a).run P w= .ok (.int .i64 0) w:=by
 split at h
 ·rename_i info hi;split at h
  ·simp_all[zeroValue,typeInfo]
  ·cases h
 ·cases h
theorem TyOk.map{i:TI}{info:TypeInfo}{d:TypeDesc}(h:TyOk P t i info d)(k:i.mp=true): ∃f b,P.underlying t=some (.map f b)/\P.underlying f=some (Do i.mpi)/\ ∀w,(zeroValue b).run P w= .ok (.int .i64 0) w:=by
 have a:=h.mp k;unfold LT at a;split at a
 ·rename_i f b l;simp only[AR]at a;obtain⟨e,j⟩:=a;refine⟨f,b,l,?_,jcM j⟩;split at e
  ·rename_i g;rw[show i.mpi=false by simpa using e];exact g
  ·rename_i g;rw[show i.mpi=true from e];exact g
  ·cases e
 ·cases a
end
section
variable {P:Program} {T:AH} {M Z:Addr->Prop} {w0 w:World} {ρ:AE} {st:St} {a:Act}
def Fl(w:World):Own:={ g:=w.heap.size,o:=0,sz:=0,room:=0,app:=false,nil:=true,gone:=false }
theorem Rel.newObj(h:Rel M Z w0 ρ st a w)(i:Nat){x:Ob}{y:Obj}(e:IQ x y):Rel M Z w0 (BW ρ i (Fl w)) (st.new i (.mp x)) a (w.alloc y):=by
 have b:(w.alloc y).heap[w.heap.size]? =some y:=by
  show(w.heap.push y)[w.heap.size]? =some y;simp
 exact h.new (Ext.alloc w _) i (λg f=>by obtain⟨_,j,_⟩:=f;grind[Fl]) (by grind[Fl]) (by simp[Fl,maxLen]) ⟨rfl,⟨rfl,rfl⟩,y,b,e⟩ (λ_=>⟨AO _,y,b,Ib e⟩)
theorem Rel.setObj(h:Rel M Z w0 ρ st a w){i:Nat}{o:Own}{x x':Ob}{y':Obj}(hi:ρ i=some o)(q:RepB ρ w Z o (.mp x))(J:IQ x' y'):Rel M Z w0 ρ (st.blk i (.mp x')) a { w with heap:=w.heap.setIfInBounds o.g y' }:=by
 obtain⟨hroom,F,y,P,hx⟩:=q;have W:=Ib hx;have I:=Ib J;have hlt:o.g<w.heap.size:=O3;have G: ∀k,k≠o.g->(w.heap.setIfInBounds o.g y')[k]? =w.heap[k]? :=O3;have E:(w.heap.setIfInBounds o.g y')[o.g]? =some y':=by
  grind
 have l: ∀f:Addr,({ w with heap:=w.heap.setIfInBounds o.g y' }:World).cell? f=w.cell? f:=λf=>by
  unfold World.cell?;by_cases e:f.block=o.g
  ·simp only[e,E,P];cases y'<;>cases y<;>first|rfl|exact absurd rfl (W _ _ _)|exact absurd rfl (I _ _ _)
  grind
 have r: ∀f:Addr,({ w with heap:=w.heap.setIfInBounds o.g y' }:World).frozen? f=w.frozen? f:=λf=>by
  unfold World.frozen?;by_cases e:f.block=o.g
  ·simp only[e,E,P];cases y'<;>cases y<;>first|rfl|exact absurd rfl (W _ _ _)|exact absurd rfl (I _ _ _)
  grind
 have Q: ∀Z1:Addr->Prop,Keep w { w with heap:=w.heap.setIfInBounds o.g y' } Z1 Z1:=λZ1 f v h1 h2=>O3;have T:Cf ρ ρ w { w with heap:=w.heap.setIfInBounds o.g y' } Z Dt:=λc v Y=>by rw[C.on_id];exact Y.keep (Q _) λ_ _=>rfl
 have oth: ∀j p,ρ j=some p->p.mp->j≠i->p.g≠o.g:=λj p H m L e=>h.heap.owns.apart j i p o H hi L ⟨o.g,0,none⟩ (ER m e.symm) (ER F rfl);exact {
  fr:=⟨h.fr.os,h.fr.drawn,h.fr.tape,h.fr.output,by simpa using h.fr.size,λf v m N=>(l f).trans (h.fr.cell f v m N),λf m X=>(r f).trans (h.fr.frz f m X),λk K m=>(G k (λe=>by
   subst e;rcases h.mine i o ⟨o.g,0,none⟩ hi (ER F rfl)with h1|h1
   ·grind
   grind)).trans (h.fr.blk k K m)⟩
  heap:=⟨⟨λi o hi S j H=>by rw[l,r];exact h.heap.owns.cells i o hi S j H,h.heap.owns.apart,h.heap.owns.lim⟩,λj b q=>by
   by_cases e:j=i
   ·subst e;simp only[St.blk]at q;rw[Bt]at q;cases q;exact⟨o,hi,hroom,F,y',E,J⟩
   ·simp only[St.blk]at q;rw[BD e,BR e]at q;obtain⟨p,ho',hr⟩:=h.heap.rep j b q;have:=hr.turn T (Q _) O3 O3;grind[Blk.on_id]⟩
  mine:=h.mine
  out:=h.out
  mz:=h.mz
  tmps:=λt v N=>by
   have:=(h.tmps t v N).turn T;rwa [V.on_id]at this
  defers:=h.defers
  mps:=λj p H m=>by
   by_cases e:p.g=o.g
   ·grind
   ·obtain⟨z,hz,S⟩:=h.mps j p H m;grind }
theorem C.str_some{s:ByteArray}{v:Value}(h:c.str? =some s)(a:RepC ρ w Z c v):v= .string s:=by
 unfold C.str? at h;split at h
 ·cases h;cases a;rfl
 ·cases h
theorem C.key_some{b:Bool}{s:Ky}{v:Value}(h:c.key? b=some s)(e:RepC ρ w Z c v):v=s.v/\s.num=b:=by
 unfold C.key? at h;split at h
 ·split at h
  ·cases h
  ·rename_i a;cases h;cases e;exact⟨rfl,by grind[Ky.num]⟩
 ·split at h
  ·rename_i a;cases h;cases e;exact⟨rfl,a.symm⟩
  ·cases h
 ·cases h
theorem R3(h:Rel M Z w0 ρ st a w){p:Nat×List (Ky×Int)}(f:HO st c=some p){v:Value}(x:RepC ρ w Z c v): ∃o arr n,ρ p.1=some o/\RepB ρ w Z o (.mp (.mp p.2))/\v= .map (some o.g)/\w.heap[o.g]? =some (.map arr n)/\arr.toList.map (λe=>(e.key,e.val))=p.2.map Ee:=by
 unfold HO at f;split at f
 ·rename_i i;rw[jzd]at f;obtain⟨b,q,f⟩:=f;split at f
  ·rename_i F;cases f;obtain⟨o,r,z⟩:=x;obtain⟨m,t,j⟩:=h.heap.rep i _ q;obtain rfl:m=o:=O3;have k:=j;obtain⟨_,_,y,E,l⟩:=j;cases y<;>first|exact l.elim|skip
   exact⟨m,_,_,r,k,by simpa using z,E,l⟩
  ·cases f
 ·cases f
theorem jgC(h:Rel M Z w0 ρ st a w){p:Nat×ByteArray×Nat}(e:KL st c=some p){v:Value}(r:RepC ρ w Z c v): ∃o,ρ p.1=some o/\RepB ρ w Z o (.mp (.it p.2.1 p.2.2))/\v= .pointer (some ⟨o.g,0,none⟩)/\w.heap[o.g]? =some (.stringIter p.2.1 p.2.2):=by
 unfold KL at e;split at e
 ·rename_i i;rw[jzd]at e;obtain⟨b,l,e⟩:=e;split at e
  ·rename_i s q;cases e;obtain⟨o,x,z⟩:=r;obtain⟨t,m,f⟩:=h.heap.rep i _ l;obtain rfl:t=o:=O3;have j:=f;obtain⟨_,_,y,E,k⟩:=f;cases y<;>first|exact k.elim|skip
   obtain⟨rfl,rfl⟩:=k;grind
  ·cases e
 ·cases e
theorem ji5(h:Rel M Z w0 ρ st a w)(f: ∀d,o.dst=some d->d<a.tmps.size)(t:TypeId)(j:o.op= .makeMap t none){e:St}
  (b:((T t).bind λi=>if i.mp then mk o.dst st (.mp (.mp [])) λd=> .mp false d else none)=some e):StepOk P M Z w0 o e a w:=by
 rw[jzd]at b;obtain⟨i,hi,b⟩:=b;split at b
 case isFalse=>cases b
 obtain⟨k,g,rfl⟩:=F8 b;have l:=h.newObj k (x:= .mp []) (y:= .map #[] 0) rfl;exact StepOk.at (P:=P) (w:=w) (o:=o) (w':=w.alloc (.map #[] 0)) g (v:=vC (.mp false k)) (x:= .map (some w.heap.size)) f (by simp[execOp,j,jeL]) l ⟨Fl w,Cd _ _ _,by simp[Fl]⟩
theorem X5(h:Rel M Z w0 ρ st a w)(j:Dk P T)(m: ∀d,o.dst=some d->d<a.tmps.size)(t:TypeId)(x:Operand)(q:o.op= .range t x){f:St}
  (b:((T t).bind λi=>if Ce i=true then (st.evC x).bind λc=>c.str?.bind λs=>mk o.dst st (.mp (.it s 0)) λd=> .mp true d else none)=some f):StepOk P M Z w0 o f a w:=by
 rw[jzd]at b;obtain⟨i,hi,b⟩:=b;split at b
 case isFalse=>cases b
 rename_i e;simp only[jzd]at b;obtain⟨c,l,s,g,b⟩:=b;obtain⟨k,p,rfl⟩:=F8 b;obtain⟨info,d,z⟩:=Be (j t i hi);have E:=Ih z e;have F:=C.str_some g (h.evC l);have r:=h.newObj k (x:= .it s 0) (y:= .stringIter s 0) ⟨rfl,rfl⟩;exact StepOk.at (P:=P) (w:=w) (o:=o) (w':=w.alloc (.stringIter s 0)) p (v:=vC (.mp true k)) (x:= .pointer (some ⟨w.heap.size,0,none⟩)) m (by simp[execOp,q,F,jgp E]) r ⟨Fl w,Cd _ _ _,by simp[Fl]⟩
theorem YL{c:Bool}{e:List (Ky×Int)}:RepV ρ w Z (found c e k) (Gs c e k):=by
 cases c with
 |false=>exact .int _ _
 |true=>
  refine⟨_,rfl,rfl,λj x v a b=> ?_⟩
  match j with
  |0=>simp at a b;subst a;subst b;exact .int _ _
  |1=>simp at a b;subst a;subst b;exact .bool _
  |j+2=>simp at a
theorem Y2(h:Rel M Z w0 ρ st a w)(F:Dk P T)(H: ∀d,o.dst=some d->d<a.tmps.size)(t:TypeId)(m k:Operand)(g:Bool)(K:o.op= .lookup t m k g){f:St}
  (b:((T t).bind λi=>if i.mp then (st.evC m).bind λm=>(st.evC k).bind λk=>Hh st o.dst g i.mpi m k else none)=some f):StepOk P M Z w0 o f a w:=by
 rw[jzd]at b;obtain⟨i,hi,b⟩:=b;split at b
 case isFalse=>cases b
 rename_i v;simp only[jzd,Hh]at b;obtain⟨c,G,W,j,p,N,s,l,b⟩:=b;split at b
 case isFalse=>cases b
 rename_i e;cases b;obtain⟨info,d,Q⟩:=Be (F t i hi);obtain⟨kt,X,y,z,E⟩:=Q.map v;obtain⟨S,r⟩:=C.key_some l (h.evC j);obtain⟨ow,x,n,L,Y,q,J,I⟩:=R3 h N (h.evC G);refine .val h H ?_ YL;have:=jfw (P:=P) (w:=w) y z E J I r e g;simp[execOp,K,S,q,this]
theorem XE(h:Rel M Z w0 ρ st a w)(S:Dk P T)(Y: ∀d,o.dst=some d->d<a.tmps.size)(t:TypeId)(m k x:Operand)(ho:o.op= .mapUpdate t m k x){l:St}
  (b:((T t).bind λi=>if i.mp then (st.evC m).bind λm=>(st.evC k).bind λk=>(st.evC x).bind λx=>G7 st o.dst i.mpi m k x else none)=some l):StepOk P M Z w0 o l a w:=by
 rw[jzd]at b;obtain⟨i,hi,b⟩:=b;split at b
 case isFalse=>cases b
 rename_i I;simp only[jzd,G7]at b;obtain⟨c,X,ck,r,cx,F,p,hp,s,y,b⟩:=b;split at b
 ·rename_i z;split at b
  case isFalse=>cases b
  rename_i f;cases b;obtain⟨info,d,ht⟩:=Be (S t i hi);obtain⟨kt,et,N,Q,h3⟩:=ht.map I;obtain⟨hv,H⟩:=C.key_some y (h.evC r);have K:a.eval x= .int .i64 z:=by
   have:=h.evC F;generalize a.eval x=q at this;cases this;rfl
  obtain⟨ow,L,n,J,W,E,hg,he⟩:=R3 h hp (h.evC X);obtain⟨e,n',g,G⟩:=XZ (P:=P) (w:=w) N Q hg he H f z;refine⟨.skip,undef,_,ρ,by simp[execOp,ho,hv,K,E,g],.inr ⟨rfl,rfl⟩,(h.setObj J W (x':= .mp (GY s z p.2)) (y':= .map e n') G).put Y ⟨[],rfl,rfl,λj x v K=>by simp at K⟩⟩
 ·cases b
theorem jaE(h:Rel M Z w0 ρ st a w)(y: ∀d,o.dst=some d->d<a.tmps.size)(x:Operand)(H:o.op= .next x true){l:St}
  (z:((st.evC x).bind λc=>GN st o.dst c)=some l):StepOk P M Z w0 o l a w:=by
 simp only[jzd,GN,jze]at z;obtain⟨c,E,p,G,rfl⟩:=z;obtain⟨i,s,q⟩:=p;obtain⟨I,g,r,F,m⟩:=jgC h G (h.evC E);simp only at g r m ⊢;split
 ·rename_i f;have k:=jab (P:=P) (w:=w) (t:=o.type) m f;refine⟨.value (.tuple #[.bool true,.int .i64 q,.int .i32 (Utf8.decode s q).1]),_,_,ρ,by simp_all[execOp],.inl rfl,(h.setObj g r (x':= .it s (q+(Utf8.decode s q).2)) (y':= .stringIter s (q+(Utf8.decode s q).2)) ⟨rfl,rfl⟩).put y ⟨[.bool true,.int .i64 q,.int .i32 (Utf8.decode s q).1],rfl,rfl,λj x v b e=> ?_⟩⟩
  match j with
  |0=>simp at b e;subst b;subst e;exact .bool _
  |1=>simp at b e;subst b;subst e;exact .int _ _
  |2=>simp at b e;subst b;subst e;exact .int _ _
  |j+3=>simp at b
 ·rename_i f;have k:=jbC (P:=P) (w:=w) (t:=o.type) m f;refine .val h y (x:= .tuple #[.bool false]) (by simp_all[execOp]) ⟨[.bool false],rfl,rfl,λj x v b e=> ?_⟩
  match j with
  |0=>simp at b e;subst b;subst e;exact .bool _
  |j+1=>simp at b
end
end Go.Va
