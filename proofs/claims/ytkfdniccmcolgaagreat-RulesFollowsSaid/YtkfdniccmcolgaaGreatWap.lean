/- a part of the proof -/
import Derived.Test.YtkfdniccmcolgaaGreatWao
import Derived.Test.YtkfdniccmcolgaaGreatRows
import Derived.ProofKit
import Derived.OpenShut
import Derived.Carry
import Derived.ChangeSlices
set_option linter.all false
set_option maxHeartbeats 4000000
set_option maxRecDepth 100000
namespace Go.Va
open Int (natCast_add natCast_mul natCast_emod natCast_ediv natCast_pow)
open Go.Proofs
theorem QN(a:Int):CallsF Tryz.prog 134 [.c (.int .i64 a)] (.u (.c (.d (.bool false)))):=by
 refine Ae (T:=tb) Ad mixed Tryz.func134 rfl (by decide) (Ac rfl) rfl ?_;unfold St.init
 simp -implicitDefEqProofs[jJ,-natCast_add,-natCast_mul]
theorem II(a b:Int):CallsF Tryz.prog 72 [.c (.int .i64 a),.c (.int .i64 b)] (.u (.c (.d (.int .i64 (Az a b))))):=by
 refine Ae (T:=tb) Ad mixed Tryz.func72 rfl (by decide) (Ac rfl) rfl ?_;unfold St.init
 simp -implicitDefEqProofs[jJ,-natCast_add,-natCast_mul];refine Aa (QN a) ?_;simp -implicitDefEqProofs[jJ,-natCast_add,-natCast_mul];refine Aa (QN b) ?_;simp -implicitDefEqProofs[jJ,-natCast_add,-natCast_mul];unfold Az;refine⟨fun h=>by rw[if_pos h],fun h=>⟨fun h2=>by rw[if_neg (by omega),if_pos h2],fun h2=>by rw[if_neg (by omega),if_neg (by omega)]⟩⟩
def Bm:List Int→Int
 |[]=>0
 |a::l=>if a=0 then Bm l else a
theorem jcw{l:List Int}{i:Nat}(h:i<l.length):Bm (l.drop i)=if l[i]=0 then Bm (l.drop (i+1)) else l[i]:=by
 rw[AD h]
 rfl
theorem K2(l:List Int)(hl:l.length≤1099511627776):CallsF Tryz.prog 71 [.c (intsD l)] (.u (.c (.d (.int .i64 (Bm l))))):=by
 refine Ae (T:=tb) Ad mixed Tryz.func71 rfl (by decide) (Ac rfl) rfl ?_;unfold St.init
 simp -implicitDefEqProofs[jJ,-natCast_add,-natCast_mul];refine Av (fun i:Nat=>⟨[(8,vI .i64 i),(7,vI .i64 l.length),(6,vC (.d (intsD l))),(3,vI .i64 0)],[]⟩) (fun i=>i≤l.length∧Bm (l.drop i)=Bm l) (fun i=>l.length - i) 0 (by simp) ⟨by omega,rfl⟩ ?_
 rintro i ⟨h1,h2⟩
 by_cases h:i<l.length
 ·have e:=jcw h;by_cases h0:l[i]=0
  ·rw[h0]at e
   simp -implicitDefEqProofs[jJ,-natCast_add,-natCast_mul,h,h0,i64];rw[if_pos rfl]at e;exact⟨by omega,⟨by omega,by rw[←e,h2]⟩,by omega⟩
  ·simp -implicitDefEqProofs[jJ,-natCast_add,-natCast_mul,h,h0,i64];rw[←h2,e,if_neg h0]
 ·have:i=l.length:=by omega
  subst this;simp -implicitDefEqProofs[jJ,-natCast_add,-natCast_mul];rw[List.drop_length]at h2;exact h2
def AL:List Int→List Int→Int
 |[],[]=>0
 |[],_::_=> -1
 |_::_,[]=>1
 |a::x,b::y=>if Az a b=0 then AL x y else Az a b
theorem Ue(y:List Int):AL [] y=if 0<y.length then -1 else 0:=by cases y<;>simp[AL]
theorem WJ{x y:List Int}{i:Nat}(h:i<x.length)(hy:i<y.length):AL (x.drop i) (y.drop i)=if Az x[i] y[i]=0 then AL (x.drop (i+1)) (y.drop (i+1)) else Az x[i] y[i]:=by
 rw[AD h,AD hy]
 rfl
theorem Yn{x y:List Int}{i:Nat}(h:i<x.length)(hy:i=y.length):AL (x.drop i) (y.drop i)=1:=by
 subst hy;rw[AD h,List.drop_length];rfl
theorem Rp(x y:List Int)(hx:x.length≤1099511627776)(hy:y.length≤1099511627776):CallsF Tryz.prog 73 [.c (intsD x),.c (intsD y)] (.u (.c (.d (.int .i64 (AL x y))))):=by
 refine Ae (T:=tb) Ad mixed Tryz.func73 rfl (by decide) (Ac rfl) rfl ?_;unfold St.init
 simp -implicitDefEqProofs[jJ,-natCast_add,-natCast_mul];refine Av (fun i:Nat=>⟨[(11,vI .i64 i),(10,vI .i64 x.length),(9,vC (.d (intsD x))),(0,vC (.d (intsD x))),(1,vC (.d (intsD y)))],[]⟩) (fun i=>i≤x.length∧i≤y.length∧AL (x.drop i) (y.drop i)=AL x y) (fun i=>x.length - i) 0 (by simp) ⟨by omega,by omega,rfl⟩ ?_
 rintro i ⟨h1,h3,h2⟩
 by_cases h:i<x.length
 ·by_cases hb:i<y.length
  ·have e:=WJ h hb;have hn: ¬y.length≤i:=by omega
   simp -implicitDefEqProofs[jJ,-natCast_add,-natCast_mul,h,hb,hn,i64];refine Aa (II x[i] y[i]) ?_;by_cases h0:Az x[i] y[i]=0
   ·rw[if_pos h0]at e
    simp -implicitDefEqProofs[jJ,-natCast_add,-natCast_mul,h0];exact⟨by omega,⟨by omega,by omega,by rw[←e,h2]⟩,by omega⟩
   ·rw[if_neg h0]at e
    simp -implicitDefEqProofs[jJ,-natCast_add,-natCast_mul,h0];rw[←h2,e]
  ·have e:i=y.length:=by omega
   have e2:=Yn h e;rw[h2]at e2;have hn:y.length≤i:=by omega
   simp -implicitDefEqProofs[jJ,-natCast_add,-natCast_mul,h,hn,i64];rw[e2]
 ·have:i=x.length:=by omega
  subst this;rw[List.drop_length,Ue,List.length_drop]at h2;rw[←h2];by_cases hb:x.length<y.length
  ·rw[if_pos (by omega)]
   simp -implicitDefEqProofs[jJ,-natCast_add,-natCast_mul,hb]
  ·rw[if_neg (by omega)]
   simp -implicitDefEqProofs[jJ,-natCast_add,-natCast_mul,hb]
def F6:List Int→Int→Nat→Int
 |[],_,_=> -1
 |a::l,v,i=>if v=a then i else F6 l v (i+1)
theorem VN: ∀(l:List Int) (v:Int) (i:Nat),0≤F6 l v i↔v∈l
 |[],v,i=>by simp[F6]
 |a::l,v,i=>by
  unfold F6;by_cases h:v=a
  ·rw[if_pos h];simp[h]
  ·rw[if_neg h,VN l v (i+1)];simp[h]
theorem jfn{l:List Int}{v:Int}{i:Nat}(h:i<l.length):F6 (l.drop i) v i=if v=l[i] then (i:Int) else F6 (l.drop (i+1)) v (i+1):=by
 rw[AD h]
 rfl
theorem jgg(l:List Int)(v:Int)(hl:l.length≤1099511627776):CallsF Tryz.prog 242 [.c (intsD l),.c (.int .i64 v)] (.u (.c (.d (.int .i64 (F6 l v 0))))):=by
 refine Ae (T:=tb) Ad mixed Tryz.func242 rfl (by decide) (Ac rfl) rfl ?_;unfold St.init
 simp -implicitDefEqProofs[jJ,-natCast_add,-natCast_mul];refine Av (fun i:Nat=>⟨[(8,vI .i64 i),(7,vI .i64 l.length),(6,vC (.d (intsD l))),(0,vC (.d (intsD l))),(1,vI .i64 v)],[]⟩) (fun i=>i≤l.length∧F6 (l.drop i) v i=F6 l v 0) (fun i=>l.length - i) 0 (by simp) ⟨by omega,rfl⟩ ?_
 rintro i ⟨h1,h2⟩
 by_cases h:i<l.length
 ·have e:=jfn (v:=v) h;by_cases h0:v=l[i]
  ·rw[if_pos h0]at e
   simp -implicitDefEqProofs[jJ,-natCast_add,-natCast_mul,h,←h0,i64];rw[←h2,e]
  ·rw[if_neg h0]at e
   simp -implicitDefEqProofs[jJ,-natCast_add,-natCast_mul,h,h0,i64];exact⟨by omega,⟨by omega,by rw[←e,h2]⟩,by omega⟩
 ·have:i=l.length:=by omega
  subst this;rw[List.drop_length]at h2;simp -implicitDefEqProofs[jJ,-natCast_add,-natCast_mul];exact h2
theorem jfv(l:List Int)(v:Int)(hl:l.length≤1099511627776):CallsF Tryz.prog 181 [.c (intsD l),.c (.int .i64 v)] (.u (.c (.d (.bool (decide (v∈l)))))):=by
 refine Ae (T:=tb) Ad mixed Tryz.func181 rfl (by decide) (Ac rfl) rfl ?_;unfold St.init
 have e:=VN l v 0;have k:=jgg l v hl;simp -implicitDefEqProofs[jJ,-natCast_add,-natCast_mul];refine Aa k ?_;simp -implicitDefEqProofs[jJ,-natCast_add,-natCast_mul,e]
theorem jg9{α:Type}{T:At}{t:TypeId}{i:TI}(hT:T t=some i)(hz:i.zero=[.nl])(ha:i.agg=false)(e:α→D){l:List α}(hl:l≠[]):binV T .eql t (.u (.c (.d (BT e l)))) (.u (.c .nl))=some (vB false):=by
 have hn:l.length≠0:=fun h=>hl (jzv.1 h)
 show(T t).bind _=_
 rw[hT]
 simp only[Option.bind_some];have:FZ i (.u (.c (.d (BT e l)))) (.u (.c .nl))=some false:=by
  unfold FZ BT;simp only[hz,ha];rw[if_neg (by simp),if_neg hn]
 rw[this]
 rfl
theorem Pj(l:List Int)(hl:l.length≤1099511627776)(h0:l≠[]):CallsF Tryz.prog 226 [.c (intsD l)] (.u (.c (.own 1 l.length (l.map i64)))):=by
 refine Ae (T:=tb) Ad mixed Tryz.func226 rfl (by decide) (Ac rfl) rfl ?_;unfold St.init
 have:l.length≠0:=fun h=>h0 (jzv.1 h)
 have e:=jg9 (T:=tb) (t:=31) rfl rfl rfl i64 h0;simp -implicitDefEqProofs[jJ,-natCast_add,-natCast_mul,e];exact⟨by omega,by omega⟩
structure Fct where
 kind:Int
 args:List Int
 neg:Bool
 abs:List Nat
 den:List Nat
 deriving DecidableEq
@[simp]def Fct.ds(f:Fct):List D:=[.int .i64 f.kind,intsD f.args,.bool f.neg,Ab f.abs,Ab f.den]
def arity(k:Int):Nat:=if k=1∨k=5 then 3 else if k=2∨k=3∨k=4∨k=6∨k=9 then 4 else if k=7 then 8 else if k=8 then 2 else 0
theorem WB(k:Int):CallsF Tryz.prog 208 [.c (.int .i64 k)] (.u (.c (.d (.int .i64 (arity k))))):=by
 refine Ae (T:=tb) Ad mixed Tryz.func208 rfl (by decide) (Ac rfl) rfl ?_;unfold St.init
 by_cases h1:k=1
 ·subst h1;simp -implicitDefEqProofs[jJ,-natCast_add,-natCast_mul,arity]
 by_cases h2:k=2
 ·subst h2;simp -implicitDefEqProofs[jJ,-natCast_add,-natCast_mul,arity]
 by_cases h3:k=3
 ·subst h3;simp -implicitDefEqProofs[jJ,-natCast_add,-natCast_mul,arity]
 by_cases h4:k=4
 ·subst h4;simp -implicitDefEqProofs[jJ,-natCast_add,-natCast_mul,arity]
 by_cases h5:k=5
 ·subst h5;simp -implicitDefEqProofs[jJ,-natCast_add,-natCast_mul,arity]
 by_cases h6:k=6
 ·subst h6;simp -implicitDefEqProofs[jJ,-natCast_add,-natCast_mul,arity]
 by_cases h7:k=7
 ·subst h7;simp -implicitDefEqProofs[jJ,-natCast_add,-natCast_mul,arity]
 by_cases h8:k=8
 ·subst h8;simp -implicitDefEqProofs[jJ,-natCast_add,-natCast_mul,arity]
 by_cases h9:k=9
 ·subst h9;simp -implicitDefEqProofs[jJ,-natCast_add,-natCast_mul,arity]
 simp -implicitDefEqProofs[jJ,-natCast_add,-natCast_mul,arity,h1,h2,h3,h4,h5,h6,h7,h8,h9]
theorem Xn(k:Int):CallsF Tryz.prog 158 [.c (.int .i64 k)] (.u (.c (.d (.int .i64 (arity k))))):=by
 refine Ae (T:=tb) Ad mixed Tryz.func158 rfl (by decide) (Ac rfl) rfl ?_;unfold St.init
 by_cases h1:k=1
 ·subst h1;simp -implicitDefEqProofs[jJ,-natCast_add,-natCast_mul,arity]
 by_cases h2:k=2
 ·subst h2;simp -implicitDefEqProofs[jJ,-natCast_add,-natCast_mul,arity]
 by_cases h3:k=3
 ·subst h3;simp -implicitDefEqProofs[jJ,-natCast_add,-natCast_mul,arity]
 by_cases h4:k=4
 ·subst h4;simp -implicitDefEqProofs[jJ,-natCast_add,-natCast_mul,arity]
 by_cases h5:k=5
 ·subst h5;simp -implicitDefEqProofs[jJ,-natCast_add,-natCast_mul,arity]
 by_cases h6:k=6
 ·subst h6;simp -implicitDefEqProofs[jJ,-natCast_add,-natCast_mul,arity]
 by_cases h7:k=7
 ·subst h7;simp -implicitDefEqProofs[jJ,-natCast_add,-natCast_mul,arity]
 by_cases h8:k=8
 ·subst h8;simp -implicitDefEqProofs[jJ,-natCast_add,-natCast_mul,arity]
 by_cases h9:k=9
 ·subst h9;simp -implicitDefEqProofs[jJ,-natCast_add,-natCast_mul,arity]
 simp -implicitDefEqProofs[jJ,-natCast_add,-natCast_mul,arity,h1,h2,h3,h4,h5,h6,h7,h8,h9]
def EY(neg:Bool)(a b:List Nat):Bool:= !neg&&decide (a=[])&&decide (b=[])
theorem Ze(neg:Bool)(a b:List Nat):CallsF Tryz.prog 160 [.agg [.bool neg,Ab a,Ab b]] (.u (.c (.d (.bool (EY neg a b))))):=by
 refine Ae (T:=tb) Ad mixed Tryz.func160 rfl (by decide) (Ac rfl) rfl ?_;unfold St.init
 cases neg<;>cases a<;>cases b<;>simp -implicitDefEqProofs[jJ,-natCast_add,-natCast_mul,EY]
theorem jeC(neg:Bool)(a b:List Nat):CallsF Tryz.prog 209 [.agg [.bool neg,Ab a,Ab b]] (.u (.c (.d (.bool (EY neg a b))))):=by
 refine Ae (T:=tb) Ad mixed Tryz.func209 rfl (by decide) (Ac rfl) rfl ?_;unfold St.init
 cases neg<;>cases a<;>cases b<;>simp -implicitDefEqProofs[jJ,-natCast_add,-natCast_mul,EY]
def FW(f:Fct)(n:Int):Int:=
 if arity f.kind=0 then 8 else if f.args.length≠arity f.kind then 1 else if f.args.any (fun a=>decide (a<0)||decide (n≤a)) then 2
 else if (if f.kind=9 then BR f.neg f.abs f.den else EY f.neg f.abs f.den) then 0 else 1
structure Fct.Mild (f:Fct):Prop where
 la:f.abs.length≤4
 ld:f.den.length≤4
 oa:Ok f.abs
 od:Ok f.den
 ln:f.args.length≤1099511627776
theorem SZ{l:List Int}{p:Int→Bool}{i:Nat}(h:i<l.length):(l.drop i).any p=(p l[i]||(l.drop (i+1)).any p):=by
 rw[AD h,List.any_cons]
theorem jbs(f:Fct)(hf:f.Mild)(n:Int):CallsF Tryz.prog 81 [.agg f.ds,.c (.int .i64 n)] (.u (.c (.d (.int .i64 (FW f n))))):=by
 refine Ae (T:=tb) Ad mixed Tryz.func81 rfl (by decide) (Ac rfl) rfl ?_;unfold St.init
 obtain⟨kind,args,neg,abs,den⟩:=f
 obtain⟨la,ld,oa,od,ln⟩:=hf
 simp only at la ld oa od ln;simp only[Fct.ds,FW];simp -implicitDefEqProofs[jJ,-natCast_add,-natCast_mul];refine Aa (Xn kind) ?_;generalize arity kind=ar at*;by_cases h1:ar=0
 ·simp -implicitDefEqProofs[jJ,-natCast_add,-natCast_mul,h1]
 by_cases h2:args.length=ar
 ·simp -implicitDefEqProofs[jJ,-natCast_add,-natCast_mul,h1,h2];refine Av (fun i:Nat=>⟨[(21,vI .i64 i),(20,vI .i64 (ar:Nat)),(19,vC (.d (intsD args))),(2,vC (.ptr 2 0)),(1,vI .i64 n)],[(2,.box [.d (.int .i64 kind),.d (intsD args),.d (.bool neg),.d (Ab abs),.d (Ab den)])]⟩) (fun i=>i≤args.length∧(args.drop i).any (fun a=>decide (a<0)||decide (n≤a))=args.any (fun a=>decide (a<0)||decide (n≤a))) (fun i=>args.length - i) 0 (by simp) ⟨by omega,rfl⟩ ?_
  rintro i ⟨h3,h4⟩
  by_cases h:i<args.length
  ·have e:=SZ (p:=fun a=>decide (a<0)||decide (n≤a)) h
   have hk:i<ar:=by omega
   rw[e]at h4
   by_cases h5:args[i]<0
   ·simp -implicitDefEqProofs[jJ,-natCast_add,-natCast_mul,h,hk,h5,i64];intro hh;have:=hh _ (Ak h);omega
   ·by_cases h6:n≤args[i]
    ·simp -implicitDefEqProofs[jJ,-natCast_add,-natCast_mul,h,hk,h5,h6,i64];intro hh;have:=hh _ (Ak h);omega
    ·simp -implicitDefEqProofs[jJ,-natCast_add,-natCast_mul,h,hk,h5,h6,i64];simp only[decide_eq_false h5,decide_eq_false h6,Bool.false_or]at h4;exact⟨by omega,⟨by omega,h4⟩,by omega⟩
  ·have hk: ¬i<ar:=by omega
   have e:i=args.length:=by omega
   rw[e,List.drop_length]at h4
   have h4': ∀x∈args,0≤x∧x<n:=by simpa using h4.symm
   rw[←h4]
   have k1:=jbH neg abs den oa (by omega) od (by omega)
   have k2:=Ze neg abs den;by_cases h9:kind=9
   ·simp -implicitDefEqProofs[jJ,-natCast_add,-natCast_mul,hk,h9];refine Aa k1 ?_;cases BR neg abs den<;>simp -implicitDefEqProofs[jJ,-natCast_add,-natCast_mul]<;>exact h4'
   ·simp -implicitDefEqProofs[jJ,-natCast_add,-natCast_mul,hk,h9];refine Aa k2 ?_;cases EY neg abs den<;>simp -implicitDefEqProofs[jJ,-natCast_add,-natCast_mul]<;>exact h4'
 ·simp -implicitDefEqProofs[jJ,-natCast_add,-natCast_mul,h1,h2]
theorem jbt(f:Fct)(hf:f.Mild)(n:Int):CallsF Tryz.prog 115 [.agg f.ds,.c (.int .i64 n)] (.u (.c (.d (.int .i64 (FW f n))))):=by
 refine Ae (T:=tb) Ad mixed Tryz.func115 rfl (by decide) (Ac rfl) rfl ?_;unfold St.init
 obtain⟨kind,args,neg,abs,den⟩:=f
 obtain⟨la,ld,oa,od,ln⟩:=hf
 simp only at la ld oa od ln;simp only[Fct.ds,FW];simp -implicitDefEqProofs[jJ,-natCast_add,-natCast_mul];refine Aa (WB kind) ?_;have ka:=WB kind;generalize arity kind=ar at*;by_cases h1:ar=0
 ·simp -implicitDefEqProofs[jJ,-natCast_add,-natCast_mul,h1]
 simp -implicitDefEqProofs[jJ,-natCast_add,-natCast_mul,h1];refine Af (Aj [0,1,3,0,8,24,63]) [.any [] [] (Ao [[2],[11],[12],[2],[14],[15]]),.one] (by rfl) ?_
 simp -implicitDefEqProofs[jJ,-natCast_add,-natCast_mul];refine Al ka ?_;by_cases h2:args.length=ar
 ·simp -implicitDefEqProofs[jJ,-natCast_add,-natCast_mul,h1,h2];refine Av (fun i:Nat=>⟨[(21,vI .i64 i),(20,vI .i64 (ar:Nat)),(19,vC (.d (intsD args))),(2,vC (.ptr 2 0)),(1,vI .i64 n)],[(2,.box [.d (.int .i64 kind),.d (intsD args),.d (.bool neg),.d (Ab abs),.d (Ab den)])]⟩) (fun i=>i≤args.length∧(args.drop i).any (fun a=>decide (a<0)||decide (n≤a))=args.any (fun a=>decide (a<0)||decide (n≤a))) (fun i=>args.length - i) 0 (by simp) ⟨by omega,rfl⟩ ?_
  rintro i ⟨h3,h4⟩
  by_cases h:i<args.length
  ·have e:=SZ (p:=fun a=>decide (a<0)||decide (n≤a)) h
   have hk:i<ar:=by omega
   rw[e]at h4
   by_cases h5:args[i]<0
   ·simp -implicitDefEqProofs[jJ,-natCast_add,-natCast_mul,h,hk,h5,i64];intro hh;have:=hh _ (Ak h);omega
   ·by_cases h6:n≤args[i]
    ·simp -implicitDefEqProofs[jJ,-natCast_add,-natCast_mul,h,hk,h5,h6,i64];intro hh;have:=hh _ (Ak h);omega
    ·simp -implicitDefEqProofs[jJ,-natCast_add,-natCast_mul,h,hk,h5,h6,i64];simp only[decide_eq_false h5,decide_eq_false h6,Bool.false_or]at h4;exact⟨by omega,⟨by omega,h4⟩,by omega⟩
  ·have hk: ¬i<ar:=by omega
   have e:i=args.length:=by omega
   rw[e,List.drop_length]at h4
   have h4': ∀x∈args,0≤x∧x<n:=by simpa using h4.symm
   rw[←h4]
   have k1:=jfi neg abs den oa (by omega) od (by omega)
   have k2:=jeC neg abs den;by_cases h9:kind=9
   ·simp -implicitDefEqProofs[jJ,-natCast_add,-natCast_mul,hk,h9];refine Aa k1 ?_;cases BR neg abs den<;>simp -implicitDefEqProofs[jJ,-natCast_add,-natCast_mul]<;>exact h4'
   ·simp -implicitDefEqProofs[jJ,-natCast_add,-natCast_mul,hk,h9];refine Aa k2 ?_;cases EY neg abs den<;>simp -implicitDefEqProofs[jJ,-natCast_add,-natCast_mul]<;>exact h4'
 ·simp -implicitDefEqProofs[jJ,-natCast_add,-natCast_mul,h1,h2]
end Go.Va
namespace Go.Va
open Go.Proofs Go.ChangeShapes Go.WideShapes Go.ChangeAt Go.RowKit
section
variable {H:Type} {enc:TypeId×Value→H} {w:World} {base:Nat} {sp:Nat→Bool} {hd:Bool}
abbrev Z0:Addr→Prop:=fun _=>False
theorem Sp{e:D→Prop}{a:Addr}{len cap:Nat}{zs:List Int}{k:IntKind}(hl:len≤cap)(hm:cap≤maxLen)(hz:len≤zs.length)(hc: ∀i,i<zs.length→w.cell? (a.add i)=some (.int k (zs.getD i 0))):
  RepD w Z0 (.slice len ((zs.take len).map (D.int k))) (.slice (some a) len cap):=by
 have key: ∀(j:Nat) (x:D),((zs.take len).map (D.int k))[j]? =some x→j<len∧x= .int k (zs.getD j 0):=fun j x hj=>by
  rw[Bw,List.getElem?_take]at hj
  by_cases h:j<len
  ·rw[if_pos h,Ai (by omega)]at hj
   refine⟨h,?_⟩
   rw[Ar,Ai (by omega)]
   exact(AX hj).symm
  ·rw[if_neg h]at hj
   cases hj
 have hspot:0<len→a.spot=none:=fun h=>by
  have:=hc 0 (by omega)
  unfold Addr.add at this;rw[if_pos rfl]at this;unfold World.cell? at this;split at this
  ·split at this
   ·cases this
   ·rename_i hn
    simpa using hn
  ·cases this
 refine .slice len _ a cap (fun j=> .int k (zs.getD j 0)) (fun hne=> ?_) hl hm (fun j x hj=> ?_) (fun j x hj h=>h) (fun j x hj=> ?_)
 ·obtain⟨x,hx⟩:=List.exists_mem_of_ne_nil _ hne
  obtain⟨j,hj⟩:=List.getElem?_of_mem hx
  have:=(key j x hj).1
  exact hspot (by omega)
 ·have hk:=key j x hj;have h1:=hc j (by omega)
  have h2:=hspot (by omega)
  have:a.add j=⟨a.block,a.off+j,none⟩:=by
   unfold Addr.add;split
   ·rename_i h0
    subst h0;obtain⟨b,o,s⟩:=a;simp only at h2;subst h2;rfl
   ·rfl
  rw[←this]
  exact h1
 ·rw[(key j x hj).2]
  exact .int _ _
theorem To{fuel:Nat}{cs:List Value}{x:DataW H×List MemPlace}(h:DataW.trod enc Tryz.prog w base sp hd fuel 31 cs=some x): ∃(l:List Int) (v:Value),cs=[v]∧RepD w Z0 (intsD l) v:=by
 rcases open_ints (k:= .i64) Tryz.underlying31 Tryz.underlying3 (by kernel_rfl) h with⟨rfl,_⟩|⟨a,len,cap,zs,rfl,_,h1,h2,h3,_,h4,_⟩
 ·exact⟨[],_,rfl,.snil⟩
 ·have hz:len≤zs.length:=by rw[h3];split<;>omega
  refine⟨zs.take len,_,rfl,?_⟩
  have:=Sp (e:=fun _=>True) h1 h2 hz h4
  have e:(intsD (zs.take len))= .slice len ((zs.take len).map (D.int .i64)):=by
   show D.slice _ _=_
   rw[AG,AU hz]
   rfl
  rw[e]
  exact this
theorem Lu{fuel:Nat}{cs:List Value}{x:DataW H×List MemPlace}(h:DataW.trod enc Tryz.prog w base sp hd fuel 33 cs=some x): ∃(l:List Nat) (v:Value),Ok l∧cs=[v]∧RepD w Z0 (Ab l) v:=by
 rcases open_ints (k:= .u16) Tryz.underlying33 (by kernel_rfl:Tryz.prog.underlying _=_) (by kernel_rfl) h with⟨rfl,_⟩|⟨a,len,cap,zs,rfl,_,h1,h2,h3,_,h4,h5⟩
 ·exact⟨[],_,Ok.nil,rfl,.snil⟩
 ·have hz:len≤zs.length:=by rw[h3];split<;>omega
  have hb: ∀n∈zs,0≤n∧n<65536:=fun n hn=>by
   have:=h5 n hn
   simp[Lit.wf,IntKind.min,IntKind.max,IntKind.signed,IntKind.bits]at this
   omega
  refine⟨(zs.take len).map Int.toNat,_,fun y hy=> ?_,rfl,?_⟩
  ·obtain⟨n,hn,rfl⟩:=jzk.1 hy
   have:=hb n (List.mem_of_mem_take hn)
   omega
  ·have:=Sp (e:=fun _=>True) h1 h2 hz h4
   have e:Ab ((zs.take len).map Int.toNat)= .slice len ((zs.take len).map (D.int .u16)):=by
    show D.slice _ _=_
    rw[List.length_map,AG,AU hz,List.map_map]
    congr 1
    refine List.map_congr_left fun n hn=> ?_
    have:=hb n (List.mem_of_mem_take hn)
    show D.int .u16 ((n.toNat:Nat):Int)=_
    rw[Int.toNat_of_nonneg this.1]
   rw[e]
   exact this
structure InFact (f:Fct):Prop where
 oa:Ok f.abs
 od:Ok f.den
theorem YF{v:Value}{d:DataW H}{p:List MemPlace}(h:DataW.Trod enc Tryz.prog w base sp hd 39 v d p): ∃f:Fct,InFact f∧A.rep w Z0 (.agg f.ds) v:=by
 obtain⟨fuel,h⟩:=h
 obtain⟨xs,n,_,_,hlen,_,hf⟩:=DataW.trod_struct Tryz.underlying39 h
 have hc5:Tryz.prog.cellsOf 39=5:=by kernel_rfl
 rw[hc5]at hlen
 have hc3:Tryz.prog.cellsOf 3=1:=by kernel_rfl
 have hc22:Tryz.prog.cellsOf 31=1:=by kernel_rfl
 have hc28:Tryz.prog.cellsOf 37=3:=by kernel_rfl
 have hc26:Tryz.prog.cellsOf 35=2:=by kernel_rfl
 have hc24:Tryz.prog.cellsOf 33=1:=by kernel_rfl
 have hc4:Tryz.prog.cellsOf 4=1:=by kernel_rfl
 have hv: ∃c0 c1 c2 c3 c4,v= .agg #[c0,c1,c2,c3,c4]:=by
  cases v with
  |agg cs=>
   obtain⟨l⟩:=cs
   have hl:l.length=5:=hlen
   match l,hl with
   |[c0,c1,c2,c3,c4],_=>exact⟨c0,c1,c2,c3,c4,rfl⟩
  |_=>simp[Value.cells]at hlen
 obtain⟨c0,c1,c2,c3,c4,rfl⟩:=hv
 have hcs:(Value.agg #[c0,c1,c2,c3,c4]).cells.toList=[c0,c1,c2,c3,c4]:=rfl
 rw[hcs]at hf
 have some_of: ∀{α:Type} {o:Option α} {l:List α} {i:Nat},o=l[i]? →i<l.length→ ∃y,o=some y:=fun {α o l i} h hi=>⟨l[i],by rw[h,Ai hi]⟩
 have hx3:xs.length=3:=by assumption
 obtain⟨y0,g0⟩:=some_of (hf 0 _ rfl) (by omega)
 obtain⟨y1,g1⟩:=some_of (hf 1 _ rfl) (by omega)
 obtain⟨y2,g2⟩:=some_of (hf 2 _ rfl) (by omega)
 simp only[hc3,hc22,hc28,List.getElem_toArray,List.getElem_cons_zero,List.getElem_cons_succ,List.drop_zero,List.take_succ_cons,List.take_zero,List.drop_succ_cons]at g0 g1 g2;obtain⟨k,e0,_,_⟩:=DataW.trod_int Tryz.underlying3 g0;obtain⟨l,u1,e1,r1⟩:=To g1;obtain⟨ys,n2,_,_,_,hy2,hf2⟩:=DataW.trod_struct Tryz.underlying37 g2;have hy2':ys.length=2:=hy2;obtain⟨z0,k0⟩:=some_of (hf2 0 _ rfl) (by omega)
 obtain⟨z1,k1⟩:=some_of (hf2 1 _ rfl) (by omega)
 simp only[hc26,hc24,List.getElem_toArray,List.getElem_cons_zero,List.getElem_cons_succ,List.drop_zero,List.take_succ_cons,List.take_zero,List.drop_succ_cons]at k0 k1;obtain⟨D4,u4,o4,e4,r4⟩:=Lu k1;obtain⟨zs,n3,_,_,_,hz2,hf3⟩:=DataW.trod_struct Tryz.underlying35 k0;have hz2':zs.length=2:=hz2;obtain⟨q0,j0⟩:=some_of (hf3 0 _ rfl) (by omega)
 obtain⟨q1,j1⟩:=some_of (hf3 1 _ rfl) (by omega)
 simp only[hc4,hc24,List.getElem_toArray,List.getElem_cons_zero,List.getElem_cons_succ,List.drop_zero,List.take_succ_cons,List.take_zero,List.drop_succ_cons]at j0 j1;obtain⟨b,e2,_⟩:=DataW.trod_bool Tryz.underlying4 j0;obtain⟨D3,u3,o3,e3,r3⟩:=Lu j1;cases e0;cases e1;cases e2;cases e3;cases e4;refine⟨⟨k,l,b,D3,D4⟩,⟨o3,o4⟩,[_,_,_,_,_],rfl,rfl,fun j x u hx hu=> ?_⟩
 match j,hx,hu with
 |0,hx,hu=>cases hx;cases hu;exact .int _ _
 |1,hx,hu=>cases hx;cases hu;exact r1
 |2,hx,hu=>cases hx;cases hu;exact .bool _
 |3,hx,hu=>cases hx;cases hu;exact r3
 |4,hx,hu=>cases hx;cases hu;exact r4
theorem PJ{r:Reach}{b0:Nat}{v:Value}{d:DataW H}{p:List MemPlace}(hval:Value.okWide Tryz.prog w r b0 3 v)(h:DataW.Trod enc Tryz.prog w base sp hd 3 v d p): ∃k:Int,A.rep w Z0 (.c (.int .i64 k)) v:=by
 obtain⟨fuel,h⟩:=h
 obtain⟨k,e0,_⟩:=DataW.trod_int Tryz.underlying3 h
 refine⟨k,?_⟩
 unfold Value.okWide at hval;rw[Tryz.underlying3]at hval;simp only at hval;unfold Cell.okWide at hval;rw[Tryz.underlying3]at hval;have:v= .int .i64 k:=by
  cases v with
  |agg cs=>simp[Cell.ok,Tryz.underlying3]at hval
  |_=>first|(simp[Value.cells]at e0;done)|simpa [Value.cells]using e0
 rw[this]
 exact .int _ _
theorem S9{P:Program}(hl:laidOutB P=true){W W':World}(hb:Below W.heap.size W W'): ∀{ts:List TypeId} {vs:List Value} {ds:List (DataW H)} {ps:List MemPlace},
  (∀t∈ts,P.readableRec t=true∧t<P.types.size)→DataW.TrodAll enc P W 0 (fun _=>true) true ts vs ds ps→(∀x∈ps,x.block<W.heap.size)→DataW.TrodAll enc P W' 0 (fun b=>decide (b<W.heap.size)) true ts vs ds ps
 |[],vs,ds,ps,_,h,_=>by
  obtain⟨rfl,rfl,rfl⟩:=trodAll_nil h
  rfl
 |t::ts,vs,ds,ps,ht,h,hlt=>by
  obtain⟨v,vs',d,ds',p,q,rfl,rfl,rfl,h1,h2⟩:=trodAll_cons h
  have:=ht t (by simp)
  exact trodAll_cons_mk (Below.trod hl this.1 this.2 h1 hb (fun x hx=>hlt x (by simp[hx]))) (S9 hl hb (fun t' h'=>ht t' (by simp[h'])) h2 (fun x hx=>hlt x (by simp[hx])))
end
theorem jdI:laidOutB Tryz.prog=true:=by kernel_rfl
theorem jew:ownKnob Tryz.prog.godebug=none:=by kernel_rfl
theorem TL{f:FuncId}{fn:Func}{s:ChangeSpec}(os:Os)(started:os.Started)(H:Type)(enc:TypeId×Value→H)(noInit:Tryz.prog.inits.idxOf? f=none)(hfn:Tryz.prog.funcs[f]? =some fn)(hvars:s.vars=[])
  (hres:fn.resultTypes= #[4]) (hts: ∀t∈fn.params.toList,Tryz.prog.readableRec t=true∧t<Tryz.prog.types.size)
  (hspec: ∀(H:Type) (ds:List (DataW H)),ds.length=fn.params.size→s.fn H ds={ results:=[.lit (.bool true)],args:=ds })
  (witness: ∃(w:World) (tape:Tape) (i:Input),w.os=os∧(w.forCall tape i).Shaped Tryz.prog∧i.vars=[]∧Input.okWide Tryz.prog (w.forCall tape i) .any w.heap.size f i∧
   s.pre6 enc Tryz.prog fn [] false (w.forCall tape i).memory i.args∧({}:Assume).holds Tryz.prog (lone (Frame.enter Tryz.prog f i.args .normal) [] (w.forCall tape i)))
  (hc: ∀(W:World) (args:Array Value) (ds:List (DataW H)) (ps:List MemPlace) (base:Nat),(∀(j:Nat) t v,fn.params[j]? =some t→args[j]? =some v→Value.okWide Tryz.prog W .any base t v)→DataW.TrodAll enc Tryz.prog W 0 (fun _=>true) true fn.params.toList args.toList ds ps→
   Calls Tryz.prog f args W fun e W'=>e= .returned (.bool true)∧Below W.heap.size W W'):
  ReturnsInHanded {} Tryz.checked os f .any (s.pre6 enc Tryz.prog fn [] false) (s.post enc Tryz.prog fn false true false false):=by
 refine returnsInHanded_of_change (C:=Tryz.checked) jew started noInit hfn witness ?_;intro W base args ds gs before hval hW hcnd _;have hW':=hW;obtain⟨p,q,hA,hV,rfl,hfz,hnd⟩:=hW;rw[hvars]at hV;obtain⟨rfl,rfl⟩:=trodVars_none hV;have hlen: ∀{ts:List TypeId} {vs:List Value} {ds:List (DataW H)} {ps:List MemPlace},DataW.TrodAll enc Tryz.prog W 0 (fun _=>true) true ts vs ds ps→ds.length=ts.length:=by
  intro ts
  induction ts with
  |nil=>intro vs ds ps h;obtain⟨_,rfl,_⟩:=trodAll_nil h;rfl
  |cons t ts ih=>intro vs ds ps h;obtain⟨v,vs',d,ds',p,q,rfl,rfl,rfl,h1,h2⟩:=trodAll_cons h;simp[ih h2]
 have hsp:s.fn H (ds++[])={ results:=[.lit (.bool true)],args:=ds }:=by
  rw[List.append_nil]
  exact hspec H ds (by simpa using hlen hA)
 refine(hc W args ds p base hval hA).mono fun e W' ⟨he,hb⟩=> ?_
 subst he;refine⟨_,rfl,ds,[],p++[],[],p,[],hW',?_,?_,?_,?_,fun h=>by cases h⟩
 ·rw[hsp,hres]
  exact trodAll_cons_mk (shut_bool Tryz.underlying4 _) trodAll_mk0
 ·rw[hsp]
  exact S9 jdI hb hts hA (fun x hx=>by
   have:=hW'.lt x (by simpa using hx)
   exact this)
 ·rw[hvars,hsp];rfl
 ·exact hb.frame _
theorem SX{f:FuncId}{xs:List A}(hc:CallsF Tryz.prog f xs (.u (.c (.d (.bool true))))){W:World}{vals:List Value}(hv:RepL (A.rep W Z0) xs vals):
  Calls Tryz.prog f vals.toArray W fun e W'=>e= .returned (.bool true)∧Below W.heap.size W W':=
 (hc.2 W Z0 vals (fun _ h=>h.elim) hv).mono fun e W' ⟨v,h1,h2,h3⟩=>by
  obtain⟨_,o,_,h4⟩:=h3
  have h5:RepD W' (Ag (BN 0 [] o) Z0) (.bool true) v:=(h4 0).1;cases h5;exact⟨h1,h2.toBelow⟩
end Go.Va
