/- a part of the proof -/
import Derived.Test.YtkajmpgbnbikiaaGreatDoorMap
import Derived.Test.YtkajmpgbnbikiaaGreatDoorMas
import Derived.Test.YtkajmpgbnbikiaaGreatDoorMar
set_option linter.all false
set_option maxHeartbeats 4000000
set_option maxRecDepth 10000
namespace Go.Va
open Int (natCast_add natCast_mul natCast_emod natCast_ediv natCast_pow)
open Go.Proofs
def TX:List (List Nat):=(Ad [0,0,2,6,0,16,48,126,255,511])
@[simp]def S0:List Seg:=[.any [79] [89] [⟨0,[12],[],[89],[]⟩,⟨0,[12],[],[89],[]⟩,⟨0,[83],[],[89],[]⟩,⟨0,[84],[],[89],[]⟩,⟨0,[12],[],[89],[]⟩,⟨0,[86],[],[89],[]⟩,⟨0,[87],[],[89],[]⟩,⟨4,[85,88],[],[],[]⟩],.one,.one]
theorem I6(a b:Int):CallsF Tryz.prog 306 [.c (.int .i64 a),.c (.int .i64 b)] (.u (.agg [.d (.int .i64 (lo a b)),.d (.int .i64 (hi a b))])):=by
 refine Ak (T:=tb) Ah mixed Tryz.func306 rfl (by decide) (Af rfl) rfl ?_;unfold St.init
 simp -implicitDefEqProofs[jJ,-natCast_add,-natCast_mul,lo,hi]
theorem Ot(f:Fct)(hl:f.args.length≤1099511627776):CallsF Tryz.prog 346 [.agg f.ds] (.u (.c (.own 2 (Bs f.args).length ((Bs f.args).flatMap BD)))):=by
 refine Ak (T:=tb) Ah mixed Tryz.func346 rfl (by decide) (Af rfl) rfl ?_;unfold St.init
 obtain⟨kind,args,neg,abs,den⟩:=f
 simp only at hl;simp -implicitDefEqProofs[jJ,-natCast_add,-natCast_mul];refine CJ [(3,27)] (fun x:Nat×Nat×List D=>⟨[(4,vI .i64 x.1),(3,vC (.sl 3 0 x.2.1)),(1,vC (.ptr 1 0))],[(3,.row 2 x.2.2 true),(1,.box [.d (.int .i64 kind),.d (intsD args),.d (.bool neg),.d (Ac abs),.d (Ac den)])]⟩) (fun x=>x.1=2*x.2.1∧x.2.1≤(Bs args).length∧x.2.2=((Bs args).take x.2.1).flatMap BD) (fun x=>(Bs args).length - x.2.1) (0,0,[]) (by simp) (by simp) ?_
 rintro⟨i,m,cs⟩ ⟨hm2,hm,hc⟩
 simp only at hm2 hm hc;subst hc;have hlen:=H9 args;by_cases h:i+1<args.length
 ·have e:=Ug (l:=args) (m:=m) (by omega)
  have e1:args[2*m]'(by omega)=args[i]:=by simp only[hm2]
  have e2:args[2*m+1]'(by omega)=args[i+1]:=by simp only[hm2]
  rw[e1,e2]at e
  have hb:i≤9223372036854775806:=by omega
  have h0:i<args.length:=by omega
  simp -implicitDefEqProofs[jJ,-natCast_add,-natCast_mul,h,hb];refine At (Ad [0,0,2,0,14,30,0,64,0,256,960,1984,4094,8190,16383,32767]) [.any [] [26] [⟨0,[3],[26],[26],[]⟩,⟨0,[1],[],[26],[]⟩,⟨0,[14],[],[26],[]⟩,⟨0,[4],[],[26],[]⟩,⟨0,[15,16],[],[26],[]⟩,⟨0,[17],[],[26],[]⟩,⟨0,[1],[],[26],[]⟩,⟨0,[19],[],[26],[]⟩,⟨0,[4],[],[26],[]⟩,⟨0,[21],[],[26],[]⟩,⟨0,[20,22],[],[26],[]⟩,⟨0,[23],[],[26],[]⟩,⟨0,[18,24],[],[26],[]⟩,⟨1,[25],[],[],[]⟩],.one,.one] (by rfl) ?_
  simp -implicitDefEqProofs[jJ,-natCast_add,-natCast_mul,h,h0,hb,i64]
  (first|refine Ab (I6 args[i] args[i+1]) ?_|refine Aa (I6 args[i] args[i+1]) ?_)
  simp -implicitDefEqProofs[jJ,-natCast_add,-natCast_mul];rw[A7 hm];exact⟨rfl,⟨by omega,by omega⟩,by omega,i+2,m+1,_,⟨⟨rfl,rfl⟩,rfl⟩,⟨by omega,by omega,e.symm⟩,by omega⟩
 ·have hb:i≤9223372036854775806:=by omega
  have e:m=(Bs args).length:=by omega
  subst e;simp -implicitDefEqProofs[jJ,-natCast_add,-natCast_mul,h,hb]
def Co(kind:Int)(f:Fct):List (List (Int×Int)):=
 if kind=2∧f.kind=1 then
  let s:=Ar (f.args.getD 0 0) (f.args.getD 1 0)
  let t:=Ar (f.args.getD 0 0) (f.args.getD 2 0)
  let u:=Ar (f.args.getD 1 0) (f.args.getD 2 0)
  [[s,t],[s,u],[t,s],[t,u],[u,s],[u,t]]
 else if f.kind≠kind then [] else
  match Bs f.args with
  |[a,b]=>[[a,b],[b,a]]
  |[u,v,w,z]=>[[u,v,w,z],[u,w,v,z],[z,v,w,u],[z,w,v,u],[v,u,z,w],[v,z,u,w],[w,u,z,v],[w,z,u,v]]
  |_=>[]
def Gh(l:List (List (Int×Int))):List D:=l.map Df
theorem T5(kind:Int)(f:Fct)(h1: ¬(kind=2∧f.kind=1))(h2:f.kind≠kind):CallsF Tryz.prog 314 [.c (.int .i64 kind),.agg f.ds] (.u (.c (.own 1 0 []))):=by
 refine Ak (T:=tb) Ah mixed Tryz.func314 rfl (by decide) (Af rfl) rfl ?_;unfold St.init
 by_cases h3:kind=2
 ·have h4:f.kind≠1:=fun h=>h1 ⟨h3,h⟩
  subst h3;simp -implicitDefEqProofs[jJ,-natCast_add,-natCast_mul,h4,h2]
 ·simp -implicitDefEqProofs[jJ,-natCast_add,-natCast_mul,h3,h2]
theorem jg1(kind:Int)(f:Fct)(hk:f.kind=kind)(h7:kind≠7)(a b:Int×Int)(hp:Bs f.args=[a,b])(hl:f.args.length≤1000):
  CallsF Tryz.prog 314 [.c (.int .i64 kind),.agg f.ds] (.u (.c (.own 1 2 (Gh [[a,b],[b,a]])))):=by
 have hpc:=Ot f (by omega)
 rw[hp]at hpc
 simp only[List.flatMap_cons,List.flatMap_nil,List.append_nil,BD,List.cons_append,List.nil_append,List.length_cons,List.length_nil,i64,Fct.ds,hk]at hpc;refine Ak (T:=tb) Ah mixed Tryz.func314 rfl (by decide) (Af rfl) rfl ?_;unfold St.init
 by_cases h2:kind=2
 ·subst h2;simp -implicitDefEqProofs[jJ,-natCast_add,-natCast_mul,hk]
  (first|refine Ab hpc ?_|refine Aa hpc ?_)
  simp -implicitDefEqProofs[jJ,-natCast_add,-natCast_mul,h7];refine At TX S0 (by rfl) ?_
  simp -implicitDefEqProofs[jJ,-natCast_add,-natCast_mul];exact⟨rfl,rfl⟩
 ·simp -implicitDefEqProofs[jJ,-natCast_add,-natCast_mul,h2,hk,h7]
  (first|refine Ab hpc ?_|refine Aa hpc ?_)
  simp -implicitDefEqProofs[jJ,-natCast_add,-natCast_mul,h7];refine At TX S0 (by rfl) ?_
  simp -implicitDefEqProofs[jJ,-natCast_add,-natCast_mul];exact⟨rfl,rfl⟩
theorem jdD(f:Fct)(hk:f.kind=7)(u v w z:Int×Int)(hp:Bs f.args=[u,v,w,z])(hl:f.args.length≤1000):
  CallsF Tryz.prog 314 [.c (.int .i64 7),.agg f.ds] (.u (.c (.own 1 8 (Gh [[u,v,w,z],[u,w,v,z],[z,v,w,u],[z,w,v,u],[v,u,z,w],[v,z,u,w],[w,u,z,v],[w,z,u,v]])))):=by
 have hpc:=Ot f (by omega)
 rw[hp]at hpc
 simp only[List.flatMap_cons,List.flatMap_nil,List.append_nil,BD,List.cons_append,List.nil_append,List.length_cons,List.length_nil,i64,Fct.ds,hk]at hpc;refine Ak (T:=tb) Ah mixed Tryz.func314 rfl (by decide) (Af rfl) rfl ?_;unfold St.init
 simp -implicitDefEqProofs[jJ,-natCast_add,-natCast_mul,hk]
 (first|refine Ab hpc ?_|refine Aa hpc ?_)
 simp -implicitDefEqProofs[jJ,-natCast_add,-natCast_mul];refine At (Ad [0,1,3,0,8,24,0,64,192,0,512,1536,0,0,0,0,61447,127039,258559,524287]) [.any [] [13,14,15,16] [⟨0,[12],[13,14,15,16],[13,14,15,16],[]⟩,⟨0,[91],[13,14,15,16],[13,14,15,16],[]⟩,⟨0,[92],[13,14,15,16],[13,14,15,16],[]⟩,⟨0,[12],[13,14,15,16],[13,14,15,16],[]⟩,⟨0,[94],[13,14,15,16],[13,14,15,16],[]⟩,⟨0,[95],[13,14,15,16],[13,14,15,16],[]⟩,⟨0,[12],[13,14,15,16],[13,14,15,16],[]⟩,⟨0,[97],[13,14,15,16],[13,14,15,16],[]⟩,⟨0,[98],[13,14,15,16],[13,14,15,16],[]⟩,⟨0,[12],[13,14,15,16],[13,14,15,16],[]⟩,⟨0,[100],[13,14,15,16],[13,14,15,16],[]⟩,⟨0,[101],[13,14,15,16],[13,14,15,16],[]⟩,⟨1,[],[14,15,16],[14,15,16],[]⟩,⟨1,[],[13,15,16],[13,15,16],[]⟩,⟨1,[],[13,14,16],[13,14,16],[]⟩,⟨1,[],[13,14,15],[13,14,15],[]⟩,⟨2,[13,93],[],[],[13]⟩,⟨2,[14,96],[],[],[14]⟩,⟨2,[15,99],[],[],[15]⟩],.one] (by rfl) ?_
 simp -implicitDefEqProofs[jJ,-natCast_add,-natCast_mul];exact⟨rfl,rfl⟩
theorem VG(f:Fct)(hk:f.kind=1)(a b c:Int)(ha:f.args=[a,b,c]):
  CallsF Tryz.prog 314 [.c (.int .i64 2),.agg f.ds] (.u (.c (.own 1 6 (Gh [[Ar a b,Ar a c],[Ar a b,Ar b c],[Ar a c,Ar a b],[Ar a c,Ar b c],[Ar b c,Ar a b],[Ar b c,Ar a c]])))):=by
 have k1:=I6 a b;have k2:=I6 a c;have k3:=I6 b c;simp only[Ar];generalize lo a b=s1 at*;generalize hi a b=s2 at*;generalize lo a c=t1 at*;generalize hi a c=t2 at*;generalize lo b c=u1 at*;generalize hi b c=u2 at*;refine Ak (T:=tb) Ah mixed Tryz.func314 rfl (by decide) (Af rfl) rfl ?_;unfold St.init
 simp only[Fct.ds,ha,hk];simp -implicitDefEqProofs[jJ,-natCast_add,-natCast_mul,-List.reduceReplicate,i64];refine At (Ad [0,1,3,0,8,24,63,0,128,384,0,1024,3072,8191,0,16384,49152,0,131072,393216,1048575,2097151,4194303]) [.any [] [] (Ap [[5],[26],[27],[5],[29],[30],[28,31],[5],[33],[34],[5],[36],[37],[35,38],[5],[40],[41],[5],[43],[44]]),.one,.one,.one] (by rfl) ?_
 simp -implicitDefEqProofs[jJ,-natCast_add,-natCast_mul,-List.reduceReplicate,i64]
 (first|refine Ab k1 ?_|refine Aa k1 ?_)
 simp -implicitDefEqProofs[jJ,-natCast_add,-natCast_mul,-List.reduceReplicate]
 (first|refine Ab k2 ?_|refine Aa k2 ?_)
 simp -implicitDefEqProofs[jJ,-natCast_add,-natCast_mul,-List.reduceReplicate]
 (first|refine Ab k3 ?_|refine Aa k3 ?_)
 simp -implicitDefEqProofs[jJ,-natCast_add,-natCast_mul,-List.reduceReplicate];refine CJ [] (fun i:Nat=>⟨[(50,vI .i64 i),(49,vI .i64 3),(48,vC (.sl 47 0 3)),(7,vC (.sl 7 0 (match i with|0=>0|1=>2|2=>4|_=>6))),(6,vC (.sl 47 0 3))],
  [(7,.row 1 (match i with|0=>[]|1=>[.slice 2 [.int .i64 s1,.int .i64 s2,.int .i64 t1,.int .i64 t2],.slice 2 [.int .i64 s1,.int .i64 s2,.int .i64 u1,.int .i64 u2]]|2=>[.slice 2 [.int .i64 s1,.int .i64 s2,.int .i64 t1,.int .i64 t2],.slice 2 [.int .i64 s1,.int .i64 s2,.int .i64 u1,.int .i64 u2],.slice 2 [.int .i64 t1,.int .i64 t2,.int .i64 s1,.int .i64 s2],.slice 2 [.int .i64 t1,.int .i64 t2,.int .i64 u1,.int .i64 u2]]|_=>[.slice 2 [.int .i64 s1,.int .i64 s2,.int .i64 t1,.int .i64 t2],.slice 2 [.int .i64 s1,.int .i64 s2,.int .i64 u1,.int .i64 u2],.slice 2 [.int .i64 t1,.int .i64 t2,.int .i64 s1,.int .i64 s2],.slice 2 [.int .i64 t1,.int .i64 t2,.int .i64 u1,.int .i64 u2],.slice 2 [.int .i64 u1,.int .i64 u2,.int .i64 s1,.int .i64 s2],.slice 2 [.int .i64 u1,.int .i64 u2,.int .i64 t1,.int .i64 t2]]) true),(47,.row 2 [.int .i64 s1,.int .i64 s2,.int .i64 t1,.int .i64 t2,.int .i64 u1,.int .i64 u2] true)]⟩) (fun i=>i≤3) (fun i=>3 - i) 0 (by simp[Aw,lk,St.le,vI,vC]) (by omega) ?_
 rintro i hi
 match i,hi with
 |0,_=>
  simp -implicitDefEqProofs[jJ,-natCast_add,-natCast_mul,-List.reduceReplicate];refine CJ [(7,70)] (fun j:Nat=>⟨[(57,vI .i64 j),(56,vI .i64 3),(55,vC (.sl 47 0 3)),(50,vI .i64 0),(49,vI .i64 3),(48,vC (.sl 47 0 3)),(8,vI .i64 0),(9,vC (.ptr 9 0)),(7,vC (.sl 7 0 (match j with|0=>0|1=>0|2=>1|_=>2))),(6,vC (.sl 47 0 3))],
   [(7,.row 1 (match j with|0=>[]|1=>[]|2=>[.slice 2 [.int .i64 s1,.int .i64 s2,.int .i64 t1,.int .i64 t2]]|_=>[.slice 2 [.int .i64 s1,.int .i64 s2,.int .i64 t1,.int .i64 t2],.slice 2 [.int .i64 s1,.int .i64 s2,.int .i64 u1,.int .i64 u2]]) true),(9,.box [.d (.int .i64 s1),.d (.int .i64 s2)]),(47,.row 2 [.int .i64 s1,.int .i64 s2,.int .i64 t1,.int .i64 t2,.int .i64 u1,.int .i64 u2] true)]⟩) (fun j=>j≤3) (fun j=>3 - j) 0 (by simp[Aw,lk,St.le,vI,vC]) (by omega) ?_
  rintro j hj
  match j,hj with
  |0,_=>
   simp -implicitDefEqProofs[jJ,-natCast_add,-natCast_mul,-List.reduceReplicate];exact⟨1,by simp[Aw,lk],by omega,by omega⟩
  |1,_=>
   simp -implicitDefEqProofs[jJ,-natCast_add,-natCast_mul,-List.reduceReplicate];exact⟨2,by simp[Aw,lk],by omega,by omega⟩
  |2,_=>
   simp -implicitDefEqProofs[jJ,-natCast_add,-natCast_mul,-List.reduceReplicate];exact⟨3,by simp[Aw,lk],by omega,by omega⟩
  |3,_=>
   simp -implicitDefEqProofs[jJ,-natCast_add,-natCast_mul,-List.reduceReplicate];exact⟨1,by simp[Aw,lk],by omega,by omega⟩
 |1,_=>
  simp -implicitDefEqProofs[jJ,-natCast_add,-natCast_mul,-List.reduceReplicate];refine CJ [(7,70)] (fun j:Nat=>⟨[(57,vI .i64 j),(56,vI .i64 3),(55,vC (.sl 47 0 3)),(50,vI .i64 1),(49,vI .i64 3),(48,vC (.sl 47 0 3)),(8,vI .i64 1),(9,vC (.ptr 9 0)),(7,vC (.sl 7 0 (match j with|0=>2|1=>3|2=>3|_=>4))),(6,vC (.sl 47 0 3))],
   [(7,.row 1 (match j with|0=>[.slice 2 [.int .i64 s1,.int .i64 s2,.int .i64 t1,.int .i64 t2],.slice 2 [.int .i64 s1,.int .i64 s2,.int .i64 u1,.int .i64 u2]]|1=>[.slice 2 [.int .i64 s1,.int .i64 s2,.int .i64 t1,.int .i64 t2],.slice 2 [.int .i64 s1,.int .i64 s2,.int .i64 u1,.int .i64 u2],.slice 2 [.int .i64 t1,.int .i64 t2,.int .i64 s1,.int .i64 s2]]|2=>[.slice 2 [.int .i64 s1,.int .i64 s2,.int .i64 t1,.int .i64 t2],.slice 2 [.int .i64 s1,.int .i64 s2,.int .i64 u1,.int .i64 u2],.slice 2 [.int .i64 t1,.int .i64 t2,.int .i64 s1,.int .i64 s2]]|_=>[.slice 2 [.int .i64 s1,.int .i64 s2,.int .i64 t1,.int .i64 t2],.slice 2 [.int .i64 s1,.int .i64 s2,.int .i64 u1,.int .i64 u2],.slice 2 [.int .i64 t1,.int .i64 t2,.int .i64 s1,.int .i64 s2],.slice 2 [.int .i64 t1,.int .i64 t2,.int .i64 u1,.int .i64 u2]]) true),(9,.box [.d (.int .i64 t1),.d (.int .i64 t2)]),(47,.row 2 [.int .i64 s1,.int .i64 s2,.int .i64 t1,.int .i64 t2,.int .i64 u1,.int .i64 u2] true)]⟩) (fun j=>j≤3) (fun j=>3 - j) 0 (by simp[Aw,lk,St.le,vI,vC]) (by omega) ?_
  rintro j hj
  match j,hj with
  |0,_=>
   simp -implicitDefEqProofs[jJ,-natCast_add,-natCast_mul,-List.reduceReplicate];exact⟨1,by simp[Aw,lk],by omega,by omega⟩
  |1,_=>
   simp -implicitDefEqProofs[jJ,-natCast_add,-natCast_mul,-List.reduceReplicate];exact⟨2,by simp[Aw,lk],by omega,by omega⟩
  |2,_=>
   simp -implicitDefEqProofs[jJ,-natCast_add,-natCast_mul,-List.reduceReplicate];exact⟨3,by simp[Aw,lk],by omega,by omega⟩
  |3,_=>
   simp -implicitDefEqProofs[jJ,-natCast_add,-natCast_mul,-List.reduceReplicate];exact⟨2,by simp[Aw,lk],by omega,by omega⟩
 |2,_=>
  simp -implicitDefEqProofs[jJ,-natCast_add,-natCast_mul,-List.reduceReplicate];refine CJ [(7,70)] (fun j:Nat=>⟨[(57,vI .i64 j),(56,vI .i64 3),(55,vC (.sl 47 0 3)),(50,vI .i64 2),(49,vI .i64 3),(48,vC (.sl 47 0 3)),(8,vI .i64 2),(9,vC (.ptr 9 0)),(7,vC (.sl 7 0 (match j with|0=>4|1=>5|2=>6|_=>6))),(6,vC (.sl 47 0 3))],
   [(7,.row 1 (match j with|0=>[.slice 2 [.int .i64 s1,.int .i64 s2,.int .i64 t1,.int .i64 t2],.slice 2 [.int .i64 s1,.int .i64 s2,.int .i64 u1,.int .i64 u2],.slice 2 [.int .i64 t1,.int .i64 t2,.int .i64 s1,.int .i64 s2],.slice 2 [.int .i64 t1,.int .i64 t2,.int .i64 u1,.int .i64 u2]]|1=>[.slice 2 [.int .i64 s1,.int .i64 s2,.int .i64 t1,.int .i64 t2],.slice 2 [.int .i64 s1,.int .i64 s2,.int .i64 u1,.int .i64 u2],.slice 2 [.int .i64 t1,.int .i64 t2,.int .i64 s1,.int .i64 s2],.slice 2 [.int .i64 t1,.int .i64 t2,.int .i64 u1,.int .i64 u2],.slice 2 [.int .i64 u1,.int .i64 u2,.int .i64 s1,.int .i64 s2]]|2=>[.slice 2 [.int .i64 s1,.int .i64 s2,.int .i64 t1,.int .i64 t2],.slice 2 [.int .i64 s1,.int .i64 s2,.int .i64 u1,.int .i64 u2],.slice 2 [.int .i64 t1,.int .i64 t2,.int .i64 s1,.int .i64 s2],.slice 2 [.int .i64 t1,.int .i64 t2,.int .i64 u1,.int .i64 u2],.slice 2 [.int .i64 u1,.int .i64 u2,.int .i64 s1,.int .i64 s2],.slice 2 [.int .i64 u1,.int .i64 u2,.int .i64 t1,.int .i64 t2]]|_=>[.slice 2 [.int .i64 s1,.int .i64 s2,.int .i64 t1,.int .i64 t2],.slice 2 [.int .i64 s1,.int .i64 s2,.int .i64 u1,.int .i64 u2],.slice 2 [.int .i64 t1,.int .i64 t2,.int .i64 s1,.int .i64 s2],.slice 2 [.int .i64 t1,.int .i64 t2,.int .i64 u1,.int .i64 u2],.slice 2 [.int .i64 u1,.int .i64 u2,.int .i64 s1,.int .i64 s2],.slice 2 [.int .i64 u1,.int .i64 u2,.int .i64 t1,.int .i64 t2]]) true),(9,.box [.d (.int .i64 u1),.d (.int .i64 u2)]),(47,.row 2 [.int .i64 s1,.int .i64 s2,.int .i64 t1,.int .i64 t2,.int .i64 u1,.int .i64 u2] true)]⟩) (fun j=>j≤3) (fun j=>3 - j) 0 (by simp[Aw,lk,St.le,vI,vC]) (by omega) ?_
  rintro j hj
  match j,hj with
  |0,_=>
   simp -implicitDefEqProofs[jJ,-natCast_add,-natCast_mul,-List.reduceReplicate];exact⟨1,by simp[Aw,lk],by omega,by omega⟩
  |1,_=>
   simp -implicitDefEqProofs[jJ,-natCast_add,-natCast_mul,-List.reduceReplicate];exact⟨2,by simp[Aw,lk],by omega,by omega⟩
  |2,_=>
   simp -implicitDefEqProofs[jJ,-natCast_add,-natCast_mul,-List.reduceReplicate];exact⟨3,by simp[Aw,lk],by omega,by omega⟩
  |3,_=>
   simp -implicitDefEqProofs[jJ,-natCast_add,-natCast_mul,-List.reduceReplicate];exact⟨3,by simp[Aw,lk],by omega,by omega⟩
 |3,_=>
  simp -implicitDefEqProofs[jJ,-natCast_add,-natCast_mul,-List.reduceReplicate];exact⟨rfl,rfl⟩
def U2:List (List Nat):=(Ad [0,0,2,6,0,16,48,112,255,511,1023,1023,0,6143,16383])
@[simp]def RX:List Seg:=[.any [] [9] [⟨0,[6],[9],[9],[]⟩,⟨0,[4],[9],[9],[]⟩,⟨0,[59],[9],[9],[]⟩,⟨0,[60],[9],[9],[]⟩,⟨0,[5],[9],[9],[]⟩,⟨0,[62],[9],[9],[]⟩,⟨0,[63],[9],[9],[]⟩,⟨0,[64],[9],[9],[]⟩,⟨0,[58,61,65],[9],[9],[]⟩,⟨0,[66],[9],[9],[]⟩,⟨0,[57],[9],[9],[]⟩,⟨0,[57],[9],[9],[]⟩,⟨1,[],[],[],[]⟩,⟨2,[9,67],[],[],[9]⟩],.one]
def Ti:List (List Nat):=(Ad [0,0,2,6,0,16,0,64,240,496,1023,2047,4095,4095,8191,32767])
@[simp]def Te:List Seg:=[.any [] [] (Ap [[9],[4],[72],[73],[5],[75],[8],[77],[76,78],[79]]),.one,.one,.any [] [] [⟨0,[70],[],[],[]⟩,⟨0,[70],[9],[],[]⟩,⟨2,[9,82],[],[],[9]⟩],.one]
def R5:List (List Nat):=(Ad [0,0,2,6,0,16,0,64,240,496,1023,2047,4095,4095,8191,32767])
@[simp]def Qn:List Seg:=[.any [] [] (Ap [[9],[4],[87],[88],[5],[90],[8],[92],[91,93],[94]]),.one,.one,.any [] [] [⟨0,[85],[],[],[]⟩,⟨0,[85],[9],[],[]⟩,⟨2,[9,97],[],[],[9]⟩],.one]
theorem ja7(x:Value)(p:Pat)(f:Fct)(b:Bnd)(hk:p.kind=1∨p.kind=6∨p.kind=8)(hl: ∀c∈p.letters,cap c)(hll:p.letters.length≤1000)(ha: ∀a∈f.args,-1≤a∧a<1000000)(hal:f.args.length≤1000):
  BA Tryz.prog x 274 [.agg p.ds,.agg f.ds,.agg b.ds,.c (.lit x)] ((if f.kind=p.kind then mp p.letters f.args b else []).map AT):=by
 have hm:=Tv x p.letters f.args b hl ha hal hll;by_cases he:f.kind=p.kind
 ·rw[if_pos he]
  refine CV (T:=tb) Ah mixed Tryz.func274 rfl (by decide) (Af rfl) rfl rfl ?_;intro rest;unfold St.initY
  simp only[Pat.ds];rcases hk with hk|hk|hk
  all_goals
   simp -implicitDefEqProofs[jJ,-natCast_add,-natCast_mul,-List.reduceReplicate,hk,he];refine .inr (.inr (.inl ⟨x,(mp p.letters f.args b).map AT,rest,_,by simp[lk],?_,hm,?_⟩))
   ·simp[St.argsW,U.toA,toD]
   ·simp only[St.reachU,List.flatMap_cons,List.flatMap_nil,U.all,List.append_nil,List.cons_append,List.nil_append,DY,Bnd.reach_cs,D7,D6];simp -implicitDefEqProofs[jJ,-natCast_add,-natCast_mul,-List.reduceReplicate,St.backY,St.rest,BR]
 ·rw[if_neg he]
  refine CV (T:=tb) Ah mixed Tryz.func274 rfl (by decide) (Af rfl) rfl rfl ?_;intro rest;unfold St.initY
  simp only[Pat.ds];rcases hk with hk|hk|hk
  all_goals
   rw[hk]at he
   simp -implicitDefEqProofs[jJ,-natCast_add,-natCast_mul,-List.reduceReplicate,hk,he,BR]
def FH(ls:List UInt8)(L:List (List (Int×Int)))(b:Bnd)(i:Nat):List (List A):=((L.drop i).flatMap fun l=>ms ls l b).map AT
theorem jit{ls:List UInt8}{L:List (List (Int×Int))}{b:Bnd}{i:Nat}(h:i<L.length):FH ls L b i=(ms ls L[i] b).map AT++FH ls L b (i+1):=by
 unfold FH;rw[AX h,List.flatMap_cons,List.map_append]
theorem jgw{ls:List UInt8}{L:List (List (Int×Int))}{b:Bnd}:FH ls L b L.length=[]:=by simp[FH]
theorem Ie(x:Value)(p:Pat)(f:Fct)(b:Bnd)(hk:p.kind≠1∧p.kind≠6∧p.kind≠8∧p.kind≠5)(L:List (List (Int×Int)))(hL:L.length≤1000)(hrd:CallsF Tryz.prog 314 [.c (.int .i64 p.kind),.agg f.ds] (.u (.c (.own 1 L.length (Gh L)))))
  (hok: ∀l∈L,CE p.letters l∧(∀s∈l,DQ s)∧l.length≤1000) (hll:p.letters.length≤1000):
  BA Tryz.prog x 274 [.agg p.ds,.agg f.ds,.agg b.ds,.c (.lit x)] ((L.flatMap fun l=>ms p.letters l b).map AT):=by
 obtain⟨h1,h6,h8,h5⟩:=hk
 obtain⟨k,ls,n⟩:=p
 simp only[Fct.ds]at*
 show BA _ _ _ _ (FH ls L b 0)
 refine CV (T:=tb) Ah mixed Tryz.func274 rfl (by decide) (Af rfl) rfl rfl ?_;intro rest;unfold St.initY
 simp only[Pat.ds];simp -implicitDefEqProofs[jJ,-natCast_add,-natCast_mul,-List.reduceReplicate,h1,h6,h8,h5]
 (first|refine Ab hrd ?_|refine Aa hrd ?_)
 simp -implicitDefEqProofs[jJ,-natCast_add,-natCast_mul,-List.reduceReplicate];refine AF (fun i:Nat=>⟨[(1000000,.tr x (FH ls L b i++rest)),(20,vI .i64 i),(19,vI .i64 L.length),(18,vC (.sl 18 0 L.length)),(6,vC (.ptr 6 0)),(4,vC (.ptr 4 0)),(3,vC (.d (.lit x)))],
  [(18,.row 1 (Gh L) true),(6,.box b.cs),(4,.box [.d (.int .i64 k),.d (.str (bs ls)),.d (.int .i64 n)])]⟩) (fun i=>i≤L.length) (fun i=>L.length - i) 0 (by simp[Aw,lk,St.le,vI,vC]) (by omega) ?_
 rintro i hi
 by_cases h:i<L.length
 ·have g:(Gh L)[i]? =some (Df L[i]):=by simp[Gh,h]
  have hl:=hok L[i] (AD h);have hm:=jeh x ls.length ls L[i] b (Az _) hl.1 hl.2.1 hl.2.2 hll;have e:=jit (ls:=ls) (b:=b) h;simp -implicitDefEqProofs[jJ,-natCast_add,-natCast_mul,-List.reduceReplicate,h,g,e];refine .inr (.inr (.inl ⟨x,(ms ls L[i] b).map AT,FH ls L b (i+1)++rest,_,by simp[lk],?_,hm,?_⟩))
  ·simp[St.argsW,U.toA,toD]
  ·simp only[St.reachU,List.flatMap_cons,List.flatMap_nil,U.all,List.append_nil,List.cons_append,List.nil_append,DY,Bnd.reach_cs,D7,D6];simp -implicitDefEqProofs[jJ,-natCast_add,-natCast_mul,-List.reduceReplicate,St.backY,St.rest];exact⟨by omega,i+1,⟨rfl,rfl⟩,by omega,by omega⟩
 ·have hi2:i=L.length:=by omega
  subst hi2;rw[jgw];simp -implicitDefEqProofs[jJ,-natCast_add,-natCast_mul,-List.reduceReplicate,BR]
def Dj(x y z:Nat)(b:Bnd)(m p q:Int):List Bnd:=
 match b.point x m with|none=>[]|some b1=>match b1.point y p with|none=>[]|some b2=>match b2.point z q with|none=>[]|some b3=>[b3]
theorem X1(x:Value)(p:Pat)(f:Fct)(b:Bnd)(hk:p.kind=5)(c1 c2 c3:UInt8)(hl:p.letters=[c1,c2,c3])(k1 k2 k3:Nat)(e1:c1.toNat=65+k1)(e2:c2.toNat=65+k2)(e3:c3.toNat=65+k3)(l1:k1<26)(l2:k2<26)(l3:k3<26)
  (m u v:Int) (ha:f.args=[m,u,v]) (hm: -1≤m∧m<1000000) (hu: -1≤u∧u<1000000) (hv: -1≤v∧v<1000000) (hf:f.kind=5):
  BA Tryz.prog x 274 [.agg p.ds,.agg f.ds,.agg b.ds,.c (.lit x)] ((Dj k1 k2 k3 b m u v++Dj k1 k2 k3 b m v u).map AT):=by
 obtain⟨k,ls,n⟩:=p
 simp only at hk hl;subst hk hl;have g0:(bs [c1,c2,c3]).size=3:=rfl;refine CV (T:=tb) Ah mixed Tryz.func274 rfl (by decide) (Af rfl) rfl rfl ?_;intro rest;unfold St.initY
 simp only[Pat.ds,Fct.ds,ha,hf];simp -implicitDefEqProofs[jJ,-natCast_add,-natCast_mul,-List.reduceReplicate];refine AF (fun i:Nat=>⟨[(1000000,.tr x ((match i with|0=>Dj k1 k2 k3 b m u v++Dj k1 k2 k3 b m v u|1=>Dj k1 k2 k3 b m v u|_=>[]).map AT++rest)),(54,vI .i64 i),(6,vC (.ptr 6 0)),(5,vC (.ptr 5 0)),(4,vC (.ptr 4 0)),(3,vC (.d (.lit x)))],
  [(6,.box b.cs),(5,.box [.d (.int .i64 5),.d (intsD [m,u,v]),.d (.bool f.neg),.d (Ac f.abs),.d (Ac f.den)]),(4,.box [.d (.int .i64 5),.d (.str (bs [c1,c2,c3])),.d (.int .i64 n)])]⟩) (fun i=>i≤2) (fun i=>2 - i) 0 (by simp[Aw,lk,St.le,vI,vC]) (by omega) ?_
 rintro i hi
 match i,hi with
 |0,_=>
  have h0:Dj k1 k2 k3 b m u v=match b.point k1 m with|none=>[]|some b1=>match b1.point k2 u with|none=>[]|some b2=>match b2.point k3 v with|none=>[]|some b3=>[b3]:=rfl
  simp -implicitDefEqProofs[jJ,-natCast_add,-natCast_mul,-List.reduceReplicate];refine At U2 RX (by rfl) ?_
  simp -implicitDefEqProofs[jJ,-natCast_add,-natCast_mul,-List.reduceReplicate,e1,i64]
  (first|refine Ab (BF b k1 l1 m hm) ?_|refine Aa (BF b k1 l1 m hm) ?_)
  generalize b.point k1 m=o1 at*;cases o1 with
  |none=>
   simp only at h0;simp -implicitDefEqProofs[jJ,-natCast_add,-natCast_mul,-List.reduceReplicate,Bp,h0];exact⟨1,⟨by simp,rfl⟩,by omega,by omega⟩
  |some b1=>
   simp only at h0;simp -implicitDefEqProofs[jJ,-natCast_add,-natCast_mul,-List.reduceReplicate,Bp];refine At Ti Te (by rfl) ?_
   simp -implicitDefEqProofs[jJ,-natCast_add,-natCast_mul,-List.reduceReplicate,e2,i64]
   (first|refine Ab (BF b1 k2 l2 u hu) ?_|refine Aa (BF b1 k2 l2 u hu) ?_)
   generalize b1.point k2 u=o2 at*;cases o2 with
   |none=>
    simp only at h0;simp -implicitDefEqProofs[jJ,-natCast_add,-natCast_mul,-List.reduceReplicate,Bp,h0];exact⟨1,⟨by simp,rfl⟩,by omega,by omega⟩
   |some b2=>
    simp only at h0;simp -implicitDefEqProofs[jJ,-natCast_add,-natCast_mul,-List.reduceReplicate,Bp];refine At R5 Qn (by rfl) ?_
    simp -implicitDefEqProofs[jJ,-natCast_add,-natCast_mul,-List.reduceReplicate,e3,i64]
    (first|refine Ab (BF b2 k3 l3 v hv) ?_|refine Aa (BF b2 k3 l3 v hv) ?_)
    generalize b2.point k3 v=o3 at*;cases o3 with
    |none=>
     simp only at h0;simp -implicitDefEqProofs[jJ,-natCast_add,-natCast_mul,-List.reduceReplicate,Bp,h0];exact⟨1,⟨by simp,rfl⟩,by omega,by omega⟩
    |some b3=>
     simp only at h0;simp -implicitDefEqProofs[jJ,-natCast_add,-natCast_mul,-List.reduceReplicate,Bp,h0];refine⟨AT b3,_,by simp[lk];rfl,by simp[AT,St.argsW,U.toA,lk],?_⟩
     simp only[St.reachU,List.flatMap_cons,List.flatMap_nil,U.all,List.append_nil,List.cons_append,List.nil_append,DY,Bnd.reach_cs,D7,D6];simp -implicitDefEqProofs[jJ,-natCast_add,-natCast_mul,-List.reduceReplicate,St.backY,St.rest];exact⟨1,⟨by simp,rfl⟩,by omega,by omega⟩
 |1,_=>
  have h0:Dj k1 k2 k3 b m v u=match b.point k1 m with|none=>[]|some b1=>match b1.point k2 v with|none=>[]|some b2=>match b2.point k3 u with|none=>[]|some b3=>[b3]:=rfl
  simp -implicitDefEqProofs[jJ,-natCast_add,-natCast_mul,-List.reduceReplicate];refine At U2 RX (by rfl) ?_
  simp -implicitDefEqProofs[jJ,-natCast_add,-natCast_mul,-List.reduceReplicate,e1,i64]
  (first|refine Ab (BF b k1 l1 m hm) ?_|refine Aa (BF b k1 l1 m hm) ?_)
  generalize b.point k1 m=o1 at*;cases o1 with
  |none=>
   simp only at h0;simp -implicitDefEqProofs[jJ,-natCast_add,-natCast_mul,-List.reduceReplicate,Bp,h0];exact⟨2,⟨by simp,rfl⟩,by omega,by omega⟩
  |some b1=>
   simp only at h0;simp -implicitDefEqProofs[jJ,-natCast_add,-natCast_mul,-List.reduceReplicate,Bp];refine At Ti Te (by rfl) ?_
   simp -implicitDefEqProofs[jJ,-natCast_add,-natCast_mul,-List.reduceReplicate,e2,i64]
   (first|refine Ab (BF b1 k2 l2 v hv) ?_|refine Aa (BF b1 k2 l2 v hv) ?_)
   generalize b1.point k2 v=o2 at*;cases o2 with
   |none=>
    simp only at h0;simp -implicitDefEqProofs[jJ,-natCast_add,-natCast_mul,-List.reduceReplicate,Bp,h0];exact⟨2,⟨by simp,rfl⟩,by omega,by omega⟩
   |some b2=>
    simp only at h0;simp -implicitDefEqProofs[jJ,-natCast_add,-natCast_mul,-List.reduceReplicate,Bp];refine At R5 Qn (by rfl) ?_
    simp -implicitDefEqProofs[jJ,-natCast_add,-natCast_mul,-List.reduceReplicate,e3,i64]
    (first|refine Ab (BF b2 k3 l3 u hu) ?_|refine Aa (BF b2 k3 l3 u hu) ?_)
    generalize b2.point k3 u=o3 at*;cases o3 with
    |none=>
     simp only at h0;simp -implicitDefEqProofs[jJ,-natCast_add,-natCast_mul,-List.reduceReplicate,Bp,h0];exact⟨2,⟨by simp,rfl⟩,by omega,by omega⟩
    |some b3=>
     simp only at h0;simp -implicitDefEqProofs[jJ,-natCast_add,-natCast_mul,-List.reduceReplicate,Bp,h0];refine⟨AT b3,_,by simp[lk];rfl,by simp[AT,St.argsW,U.toA,lk],?_⟩
     simp only[St.reachU,List.flatMap_cons,List.flatMap_nil,U.all,List.append_nil,List.cons_append,List.nil_append,DY,Bnd.reach_cs,D7,D6];simp -implicitDefEqProofs[jJ,-natCast_add,-natCast_mul,-List.reduceReplicate,St.backY,St.rest];exact⟨2,⟨by simp,rfl⟩,by omega,by omega⟩
 |2,_=>
  simp -implicitDefEqProofs[jJ,-natCast_add,-natCast_mul,-List.reduceReplicate,BR]
theorem jen(x:Value)(p:Pat)(f:Fct)(b:Bnd)(hk:p.kind=5)(hf:f.kind≠5):BA Tryz.prog x 274 [.agg p.ds,.agg f.ds,.agg b.ds,.c (.lit x)] []:=by
 refine CV (T:=tb) Ah mixed Tryz.func274 rfl (by decide) (Af rfl) rfl rfl ?_;intro rest;unfold St.initY
 simp only[Pat.ds,Fct.ds,hk];simp -implicitDefEqProofs[jJ,-natCast_add,-natCast_mul,-List.reduceReplicate,hf,BR]
theorem Jl(f g:Fct)(hf:f.Mild)(hg:g.Mild)(nf:f.Num)(ng:g.Num):CallsF Tryz.prog 71 [.agg f.ds,.agg g.ds] (.u (.c (.d (.int .i64 (BC f g))))):=by
 obtain⟨k,a,n,m,d⟩:=f
 obtain⟨k',a',n',m',d'⟩:=g
 obtain⟨la,ld,oa,od,ln⟩:=hf
 obtain⟨la',ld',oa',od',ln'⟩:=hg
 simp only[Fct.Num,Fct.ds]at*;have k1:=FG k k';have k2:=Rh a a' ln ln';have k3:CallsF Tryz.prog 127 [.c (.slice 2 [.int .i64 (cmpZ k k'),.int .i64 (A6 a a')])] _:=Kl [cmpZ k k',A6 a a'] (by simp)
 have e:cmpK ⟨k,a,n,m,d⟩ ⟨k',a',n',m',d'⟩=CG [cmpZ k k',A6 a a']:=rfl
 have z:=cmpK_zero (a:=⟨k,a,n,m,d⟩) (b:=⟨k',a',n',m',d'⟩);simp only at z;rw[←e]at k3;unfold BC;generalize cmpK ⟨k,a,n,m,d⟩ ⟨k',a',n',m',d'⟩=c at*;refine Ak (T:=tb) Ah mixed Tryz.func71 rfl (by decide) (Af rfl) rfl ?_;unfold St.init
 simp -implicitDefEqProofs[jJ,-natCast_add,-natCast_mul];refine At (Ad [0,1,0,4,15,0,32,0,128,511,1023,2047,4095]) [.any [] [] (Ap [[2],[6],[3],[8],[7,9],[2],[11],[3],[13]]),.one,.one,.one,.one] (by rfl) ?_
 simp -implicitDefEqProofs[jJ,-natCast_add,-natCast_mul]
 (first|refine Ab k1 ?_|refine Aa k1 ?_)
 simp -implicitDefEqProofs[jJ,-natCast_add,-natCast_mul]
 (first|refine Ab k2 ?_|refine Aa k2 ?_)
 simp -implicitDefEqProofs[jJ,-natCast_add,-natCast_mul]
 (first|refine Ab k3 ?_|refine Aa k3 ?_)
 by_cases h:c=0
 ·by_cases h9:k=9
  ·have h9':k'=9:=by rw[←(z.1 h).1];exact h9
   have k4:=Mv n n' m d m' d' oa (by omega) od (by omega) oa' (by omega) od' (by omega) (nf h9) (ng h9')
   simp -implicitDefEqProofs[jJ,-natCast_add,-natCast_mul,h,h9]
   (first|refine Ab k4 ?_|refine Aa k4 ?_)
   simp -implicitDefEqProofs[jJ,-natCast_add,-natCast_mul,Ha]
  ·simp -implicitDefEqProofs[jJ,-natCast_add,-natCast_mul,h,h9]
 ·simp -implicitDefEqProofs[jJ,-natCast_add,-natCast_mul,h]
end Go.Va
