/- a part of the proof -/
import Derived.Test.YtkfdniccmcolgaaGreatQap
set_option linter.all false
set_option maxHeartbeats 4000000
set_option maxRecDepth 10000
namespace Go.Va
open Int (natCast_add natCast_mul natCast_emod natCast_ediv natCast_pow)
open Go.Proofs
section
variable {α:Type} {k:Nat} {e:α→List D} (he: ∀x,(e x).length=k)
include he
theorem EO(l:List α):(l.flatMap e).length=l.length*k:=by
 induction l with
 |nil=>simp
 |cons a l ih=>rw[List.flatMap_cons,List.length_append,he,ih,List.length_cons,Nat.add_mul,Nat.one_mul,Nat.add_comm]
theorem DZ(l:List α)(i:Nat):(l.flatMap e).drop (i*k)=(l.drop i).flatMap e:=by
 induction l generalizing i with
 |nil=>simp
 |cons a l ih=>
  cases i with
  |zero=>simp
  |succ i=>
   rw[List.flatMap_cons,List.drop_succ_cons,List.drop_append,B7 (by rw[he,Nat.add_mul];omega),he,List.nil_append,Nat.add_mul,Nat.one_mul,Nat.add_sub_cancel,ih]
theorem JC(l:List α)(i:Nat):(l.flatMap e).take (i*k)=(l.take i).flatMap e:=by
 induction l generalizing i with
 |nil=>simp
 |cons a l ih=>
  cases i with
  |zero=>simp
  |succ i=>
   rw[List.flatMap_cons,List.take_succ_cons,List.flatMap_cons,List.take_append,AI (by rw[he,Nat.add_mul];omega),he,Nat.add_mul,Nat.one_mul,Nat.add_sub_cancel,ih]
theorem G1(l:List α)(i:Nat)(h:i<l.length):((l.flatMap e).drop (i*k)).take k=e l[i]:=by
 rw[DZ he,AD h,List.flatMap_cons,List.take_append,AI (by rw[he];omega),he,Nat.sub_self]
 simp
end
def BJ(s:Int×Int):List D:=[i64 s.1,i64 s.2]
theorem TF(s:Int×Int):(BJ s).length=2:=rfl
theorem Fct.ds_len(f:Fct):f.ds.length=5:=rfl
@[simp high]theorem jeF(l:List (Int×Int)):(l.flatMap BJ).length=l.length*2:=EO TF l
@[simp high]theorem I3(l:List Fct):(l.flatMap Fct.ds).length=l.length*5:=EO Fct.ds_len l
def Du(l:List (Int×Int)):D:= .slice l.length (l.flatMap BJ)
def AE(l:List Fct):D:= .slice l.length (l.flatMap Fct.ds)
@[simp]theorem jis(l:List (Int×Int)):lenC (.d (Du l))=some l.length:=rfl
@[simp]theorem jiF(l:List Fct):lenC (.d (AE l))=some l.length:=rfl
@[simp]theorem jih(h:List (Nat×Blk))(i:Int)(l:List (Int×Int)):idxSl h 2 i (.d (Du l))=if 0≤i∧i<l.length then some (.d (.ref ((l.drop i.toNat).flatMap BJ))) else none:=by
 unfold Du idxSl;simp only[jeF,and_true,DZ TF]
@[simp]theorem jil(h:List (Nat×Blk))(i:Int)(l:List Fct):idxSl h 5 i (.d (AE l))=if 0≤i∧i<l.length then some (.d (.ref ((l.drop i.toNat).flatMap Fct.ds))) else none:=by
 unfold AE idxSl;simp only[I3,and_true,DZ Fct.ds_len]
@[simp]theorem ji1(l:List (Int×Int)):D.flat (Du l)=false:=rfl
@[simp]theorem jiO(l:List Fct):D.flat (AE l)=false:=rfl
theorem RW{l:List (Int×Int)}{i:Nat}(h:i<l.length):(l.drop i).flatMap BJ= .int .i64 l[i].1:: .int .i64 l[i].2::(l.drop (i+1)).flatMap BJ:=by
 rw[AD h];rfl
theorem DO{l:List Fct}{i:Nat}(h:i<l.length):(l.drop i).flatMap Fct.ds= .int .i64 l[i].kind::intsD l[i].args:: .bool l[i].neg::Ab l[i].abs::Ab l[i].den::(l.drop (i+1)).flatMap Fct.ds:=by
 rw[AD h];rfl
def lo(a b:Int):Int:=if b<a then b else a
def hi(a b:Int):Int:=if a<b then b else a
def Ah(a b:Int):Int×Int:=(lo a b,hi a b)
theorem We(a b:Int):CallsF Tryz.prog 182 [.c (.int .i64 a),.c (.int .i64 b)] (.u (.agg [.d (.int .i64 (lo a b)),.d (.int .i64 (hi a b))])):=by
 refine Ae (T:=tb) Ad mixed Tryz.func182 rfl (by decide) (Ac rfl) rfl ?_;unfold St.init
 simp -implicitDefEqProofs[jJ,-natCast_add,-natCast_mul,-natCast_emod,-natCast_ediv,-natCast_pow,lo,hi]
def AW:List Int→List (Int×Int)
 |a::b::l=>Ah a b::AW l
 |_=>[]
theorem Js: ∀l:List Int,(AW l).length=l.length/2
 |[]=>rfl
 |[a]=>by simp[AW]
 |a::b::l=>by
  simp only[AW,List.length_cons,Js l];omega
theorem QI: ∀(l:List Int) (m:Nat) (h:2*m+1<l.length),(AW l)[m]'(by rw[Js];omega)=Ah (l[2*m]'(by omega)) l[2*m+1]
 |a::b::l,0,_=>rfl
 |a::b::l,m+1,h=>by
  have:=QI l m (by simp at h;omega)
  simp only[AW,List.getElem_cons_succ,this];rfl
theorem Qq{l:List Int}{m:Nat}(h:2*m+1<l.length):((AW l).take (m+1)).flatMap BJ=((AW l).take m).flatMap BJ++[.int .i64 (lo (l[2*m]'(by omega)) l[2*m+1]),.int .i64 (hi (l[2*m]'(by omega)) l[2*m+1])]:=by
 rw[AQ (by rw[Js];omega),List.flatMap_append,QI l m h]
 rfl
theorem Qn(f:Fct)(hl:f.args.length≤1099511627776):CallsF Tryz.prog 102 [.agg f.ds] (.u (.c (.own 2 (AW f.args).length ((AW f.args).flatMap BJ)))):=by
 refine Ae (T:=tb) Ad mixed Tryz.func102 rfl (by decide) (Ac rfl) rfl ?_;unfold St.init
 obtain⟨kind,args,neg,abs,den⟩:=f
 simp only at hl;simp -implicitDefEqProofs[jJ,-natCast_add,-natCast_mul,-natCast_emod,-natCast_ediv,-natCast_pow];refine BA [(3,27)] (fun x:Nat×Nat×List D=>⟨[(4,vI .i64 x.1),(3,vC (.sl 3 0 x.2.1)),(1,vC (.ptr 1 0))],[(3,.row 2 x.2.2 true),(1,.box [.d (.int .i64 kind),.d (intsD args),.d (.bool neg),.d (Ab abs),.d (Ab den)])]⟩) (fun x=>x.1=2*x.2.1∧x.2.1≤(AW args).length∧x.2.2=((AW args).take x.2.1).flatMap BJ) (fun x=>(AW args).length - x.2.1) (0,0,[]) (by simp) (by simp) ?_
 rintro⟨i,m,cs⟩ ⟨hm2,hm,hc⟩
 simp only at hm2 hm hc;subst hc;have hlen:=Js args;by_cases h:i+1<args.length
 ·have e:=Qq (l:=args) (m:=m) (by omega)
  have e1:args[2*m]'(by omega)=args[i]:=by simp only[hm2]
  have e2:args[2*m+1]'(by omega)=args[i+1]:=by simp only[hm2]
  rw[e1,e2]at e
  have hb:i≤9223372036854775806:=by omega
  have h0:i<args.length:=by omega
  simp -implicitDefEqProofs[jJ,-natCast_add,-natCast_mul,-natCast_emod,-natCast_ediv,-natCast_pow,h,hb];refine Af (Aj [0,0,2,0,14,30,0,64,0,256,960,1984,4094,8190,16383,32767]) [.any [] [26] [⟨0,[3],[26],[26],[]⟩,⟨0,[1],[],[26],[]⟩,⟨0,[14],[],[26],[]⟩,⟨0,[4],[],[26],[]⟩,⟨0,[15,16],[],[26],[]⟩,⟨0,[17],[],[26],[]⟩,⟨0,[1],[],[26],[]⟩,⟨0,[19],[],[26],[]⟩,⟨0,[4],[],[26],[]⟩,⟨0,[21],[],[26],[]⟩,⟨0,[20,22],[],[26],[]⟩,⟨0,[23],[],[26],[]⟩,⟨0,[18,24],[],[26],[]⟩,⟨1,[25],[],[],[]⟩],.one,.one] (by rfl) ?_
  simp -implicitDefEqProofs[jJ,-natCast_add,-natCast_mul,-natCast_emod,-natCast_ediv,-natCast_pow,h,h0,hb,i64];refine Al (We args[i] args[i+1]) ?_;simp -implicitDefEqProofs[jJ,-natCast_add,-natCast_mul,-natCast_emod,-natCast_ediv,-natCast_pow];rw[AU hm];exact⟨rfl,⟨by omega,by omega⟩,by omega,i+2,m+1,_,⟨⟨rfl,rfl⟩,rfl⟩,⟨by omega,by omega,e.symm⟩,by omega⟩
 ·have hb:i≤9223372036854775806:=by omega
  have e:m=(AW args).length:=by omega
  subst e;simp -implicitDefEqProofs[jJ,-natCast_add,-natCast_mul,-natCast_emod,-natCast_ediv,-natCast_pow,h,hb]
def D6(l:List (Int×Int)):List Int:=l.flatMap fun s=>[s.1,s.2]
theorem OD(l:List (Int×Int)):(D6 l).length=l.length*2:=by
 induction l with
 |nil=>rfl
 |cons a l ih=>simp only[D6,List.flatMap_cons,List.length_append,List.length_cons,List.length_nil]at ih ⊢;omega
theorem Gy(a b:Int):CallsF Tryz.prog 103 [.agg [.int .i64 a,.int .i64 b]] (.u (.c (.d (.bool (decide (a=b)))))):=by
 refine Ae (T:=tb) Ad mixed Tryz.func103 rfl (by decide) (Ac rfl) rfl ?_;unfold St.init
 simp -implicitDefEqProofs[jJ,-natCast_add,-natCast_mul,-natCast_emod,-natCast_ediv,-natCast_pow]
theorem R3(a b p:Int):CallsF Tryz.prog 221 [.agg [.int .i64 a,.int .i64 b],.c (.int .i64 p)] (.u (.c (.d (.bool (decide (a=p)||decide (b=p)))))):=by
 refine Ae (T:=tb) Ad mixed Tryz.func221 rfl (by decide) (Ac rfl) rfl ?_;unfold St.init
 by_cases h:a=p<;>simp -implicitDefEqProofs[jJ,-natCast_add,-natCast_mul,-natCast_emod,-natCast_ediv,-natCast_pow,h]
def Dg(a b p:Int):Int:=a+b - p
theorem Vc(a b p:Int)(ha:0≤a∧a<64)(hb:0≤b∧b<64)(hp:0≤p∧p<64):CallsF Tryz.prog 222 [.agg [.int .i64 a,.int .i64 b],.c (.int .i64 p)] (.u (.c (.d (.int .i64 (Dg a b p))))):=by
 refine Ae (T:=tb) Ad mixed Tryz.func222 rfl (by decide) (Ac rfl) rfl ?_;unfold St.init
 simp -implicitDefEqProofs[jJ,-natCast_add,-natCast_mul,-natCast_emod,-natCast_ediv,-natCast_pow,Dg];omega
def AC(p q:Int×Int):Int:=Bm [Az p.1 q.1,Az p.2 q.2]
theorem HS(a b c d:Int):CallsF Tryz.prog 223 [.agg [.int .i64 a,.int .i64 b],.agg [.int .i64 c,.int .i64 d]] (.u (.c (.d (.int .i64 (AC (a,b) (c,d)))))):=by
 refine Ae (T:=tb) Ad mixed Tryz.func223 rfl (by decide) (Ac rfl) rfl ?_;unfold St.init
 have k:CallsF Tryz.prog 71 [.c (.slice 2 [.int .i64 (Az a c),.int .i64 (Az b d)])] _:=K2 [Az a c,Az b d] (by simp)
 simp -implicitDefEqProofs[jJ,-natCast_add,-natCast_mul,-natCast_emod,-natCast_ediv,-natCast_pow];refine Af (Aj [0,1,0,4,15,0,32,0,128,511,1023,2047,4095]) [.any [] [] (Ao [[2],[5],[3],[7],[6,8],[2],[10],[3],[12]]),.one,.one,.one,.one] (by rfl) ?_
 simp -implicitDefEqProofs[jJ,-natCast_add,-natCast_mul,-natCast_emod,-natCast_ediv,-natCast_pow];refine Al (II a c) ?_;simp -implicitDefEqProofs[jJ,-natCast_add,-natCast_mul,-natCast_emod,-natCast_ediv,-natCast_pow];refine Aa (II b d) ?_;simp -implicitDefEqProofs[jJ,-natCast_add,-natCast_mul,-natCast_emod,-natCast_ediv,-natCast_pow];refine Aa k ?_;simp -implicitDefEqProofs[jJ,-natCast_add,-natCast_mul,-natCast_emod,-natCast_ediv,-natCast_pow,AC]
theorem Qo(kind:Int)(neg:Bool)(abs den:List Nat)(l:List (Int×Int))(hl:l.length≤1099511627776):CallsF Tryz.prog 224 [.c (.int .i64 kind),.agg [.bool neg,Ab abs,Ab den],.c (Du l)]
  (.u (.agg [.d (.int .i64 kind),.d (intsD (D6 l)),.d (.bool neg),.d (Ab abs),.d (Ab den)])):=by
 refine Ae (T:=tb) Ad mixed Tryz.func224 rfl (by decide) (Ac rfl) rfl ?_;unfold St.init
 simp -implicitDefEqProofs[jJ,-natCast_add,-natCast_mul,-natCast_emod,-natCast_ediv,-natCast_pow];refine Av (fun i:Nat=>⟨[(15,vI .i64 i),(14,vI .i64 l.length),(13,vC (.d (Du l))),(7,vC (.ptr 7 0)),(6,vC (.ptr 6 0))],match i with
  |0=>[(7,.box [.d (.int .i64 kind),.nl,.d (.bool neg),.d (Ab abs),.d (Ab den)]),(6,.box [.d (.int .i64 0),.nl,.d (.bool false),.nl,.nl])]
  |n+1=>[(7,.box [.d (.int .i64 kind),.sl 26 0 ((n+1)*2),.d (.bool neg),.d (Ab abs),.d (Ab den)]),(6,.box [.d (.int .i64 0),.nl,.d (.bool false),.nl,.nl]),(26,.row 1 ((D6 (l.take (n+1))).map i64) true)]⟩)
  (fun i=>i≤l.length) (fun i=>l.length - i) 0 (by simp) (by omega) ?_
 rintro i hi
 by_cases h:i<l.length
 ·have e:D6 (l.take (i+1))=D6 (l.take i)++[l[i].1,l[i].2]:=by
   rw[AQ h];unfold D6;rw[List.flatMap_append];rfl
  have e2:=RW h;have e3:=OD (l.take i);rw[AG,AU (by omega)]at e3
  cases i with
  |zero=>
   have e4:(D6 (l.take 1)).map i64=[.int .i64 l[0].1,.int .i64 l[0].2]:=by rw[e];rfl
   rw[List.drop_zero]at e2
   simp -implicitDefEqProofs[jJ,-natCast_add,-natCast_mul,-natCast_emod,-natCast_ediv,-natCast_pow,h,e2,e4];exact⟨1,⟨rfl,by simp[An,lk,e4]⟩,by omega,by omega⟩
  |succ n=>
   simp -implicitDefEqProofs[jJ,-natCast_add,-natCast_mul,-natCast_emod,-natCast_ediv,-natCast_pow,h,e2,e,e3];refine⟨by omega,by omega,n+2,⟨rfl,?_⟩,by omega,by omega⟩
   have e5:(n+1)*2+2=(n+1+1)*2:=by omega
   simp[An,lk,e,e5]
   exact⟨rfl,rfl⟩
 ·have hi2:i=l.length:=by omega
  cases i with
  |zero=>
   have:l=[]:=jzv.1 hi2.symm
   subst this;simp -implicitDefEqProofs[jJ,-natCast_add,-natCast_mul,-natCast_emod,-natCast_ediv,-natCast_pow];rfl
  |succ n=>
   have e3:=OD l;simp -implicitDefEqProofs[jJ,-natCast_add,-natCast_mul,-natCast_emod,-natCast_ediv,-natCast_pow,h];rw[hi2,AZ,←e3,AI (by simp)]
   refine⟨AA _,rfl⟩
def bs(l:List UInt8):ByteArray:=⟨l.toArray⟩
structure Pat where
 kind:Int
 letters:List UInt8
 n:Int
def Pat.ds(p:Pat):List D:=[.int .i64 p.kind,.str (bs p.letters),.int .i64 p.n]
theorem Pat.ds_len(p:Pat):p.ds.length=3:=rfl
def B9(l:List Pat):D:= .slice l.length (l.flatMap Pat.ds)
structure Rul where
 name:List UInt8
 prem:List Pat
 concl:List Pat
 guards:List Pat
 count:Int
 derive:D
def Rul.ds(r:Rul):List D:=[.str (bs r.name),B9 r.prem,B9 r.concl,B9 r.guards,.int .i64 r.count,r.derive]
def Rul.zero:Rul:=⟨[],[],[],[],0,.nilFn⟩
theorem Ol(n:Nat)(cs:List D):CallsF Tryz.prog 138 [.c (.slice n cs)] (.u (.c (.d (.slice n cs)))):=by
 refine Ae (T:=tb) Ad mixed Tryz.func138 rfl (by decide) (Ac rfl) rfl ?_;unfold St.init
 simp -implicitDefEqProofs[jJ,-natCast_add,-natCast_mul]
def DC(s:List UInt8):Pat:=⟨2,s,0⟩
def Do(s:List UInt8):Pat:=⟨3,s,0⟩
def CT(s:List UInt8):Pat:=⟨4,s,0⟩
def Iu(s:List UInt8):Pat:=⟨1,s,0⟩
def Dk(s:List UInt8):Pat:=⟨5,s,0⟩
def Fs(s:List UInt8):Pat:=⟨6,s,0⟩
def C2(s:List UInt8):Pat:=⟨7,s,0⟩
def LS(s:List UInt8):Pat:=⟨8,s,0⟩
def I6(s:List UInt8)(n:Int):Pat:=⟨9,s,n⟩
def DA(s:List UInt8):Pat:=⟨1,s,0⟩
def G3(s:List UInt8):Pat:=⟨2,s,0⟩
theorem Nx(s:ByteArray):CallsF Tryz.prog 139 [.c (.str s)] (.u (.agg [.d (.int .i64 2),.d (.str s),.d (.int .i64 0)])):=by
 refine Ae (T:=tb) Ad mixed Tryz.func139 rfl (by decide) (Ac rfl) rfl ?_;unfold St.init
 simp -implicitDefEqProofs[jJ,-natCast_add,-natCast_mul]
theorem N3(s:ByteArray):CallsF Tryz.prog 141 [.c (.str s)] (.u (.agg [.d (.int .i64 3),.d (.str s),.d (.int .i64 0)])):=by
 refine Ae (T:=tb) Ad mixed Tryz.func141 rfl (by decide) (Ac rfl) rfl ?_;unfold St.init
 simp -implicitDefEqProofs[jJ,-natCast_add,-natCast_mul]
theorem NN(s:ByteArray):CallsF Tryz.prog 145 [.c (.str s)] (.u (.agg [.d (.int .i64 4),.d (.str s),.d (.int .i64 0)])):=by
 refine Ae (T:=tb) Ad mixed Tryz.func145 rfl (by decide) (Ac rfl) rfl ?_;unfold St.init
 simp -implicitDefEqProofs[jJ,-natCast_add,-natCast_mul]
theorem NY(s:ByteArray):CallsF Tryz.prog 144 [.c (.str s)] (.u (.agg [.d (.int .i64 1),.d (.str s),.d (.int .i64 0)])):=by
 refine Ae (T:=tb) Ad mixed Tryz.func144 rfl (by decide) (Ac rfl) rfl ?_;unfold St.init
 simp -implicitDefEqProofs[jJ,-natCast_add,-natCast_mul]
theorem Nq(s:ByteArray):CallsF Tryz.prog 143 [.c (.str s)] (.u (.agg [.d (.int .i64 5),.d (.str s),.d (.int .i64 0)])):=by
 refine Ae (T:=tb) Ad mixed Tryz.func143 rfl (by decide) (Ac rfl) rfl ?_;unfold St.init
 simp -implicitDefEqProofs[jJ,-natCast_add,-natCast_mul]
theorem Np(s:ByteArray):CallsF Tryz.prog 149 [.c (.str s)] (.u (.agg [.d (.int .i64 6),.d (.str s),.d (.int .i64 0)])):=by
 refine Ae (T:=tb) Ad mixed Tryz.func149 rfl (by decide) (Ac rfl) rfl ?_;unfold St.init
 simp -implicitDefEqProofs[jJ,-natCast_add,-natCast_mul]
theorem O8(s:ByteArray):CallsF Tryz.prog 151 [.c (.str s)] (.u (.agg [.d (.int .i64 7),.d (.str s),.d (.int .i64 0)])):=by
 refine Ae (T:=tb) Ad mixed Tryz.func151 rfl (by decide) (Ac rfl) rfl ?_;unfold St.init
 simp -implicitDefEqProofs[jJ,-natCast_add,-natCast_mul]
theorem Oz(s:ByteArray):CallsF Tryz.prog 147 [.c (.str s)] (.u (.agg [.d (.int .i64 8),.d (.str s),.d (.int .i64 0)])):=by
 refine Ae (T:=tb) Ad mixed Tryz.func147 rfl (by decide) (Ac rfl) rfl ?_;unfold St.init
 simp -implicitDefEqProofs[jJ,-natCast_add,-natCast_mul]
theorem MA(s:ByteArray)(n:Int):CallsF Tryz.prog 146 [.c (.str s),.c (.int .i64 n)] (.u (.agg [.d (.int .i64 9),.d (.str s),.d (.int .i64 n)])):=by
 refine Ae (T:=tb) Ad mixed Tryz.func146 rfl (by decide) (Ac rfl) rfl ?_;unfold St.init
 simp -implicitDefEqProofs[jJ,-natCast_add,-natCast_mul]
theorem Nl(s:ByteArray):CallsF Tryz.prog 140 [.c (.str s)] (.u (.agg [.d (.int .i64 1),.d (.str s),.d (.int .i64 0)])):=by
 refine Ae (T:=tb) Ad mixed Tryz.func140 rfl (by decide) (Ac rfl) rfl ?_;unfold St.init
 simp -implicitDefEqProofs[jJ,-natCast_add,-natCast_mul]
theorem O6(s:ByteArray):CallsF Tryz.prog 150 [.c (.str s)] (.u (.agg [.d (.int .i64 2),.d (.str s),.d (.int .i64 0)])):=by
 refine Ae (T:=tb) Ad mixed Tryz.func150 rfl (by decide) (Ac rfl) rfl ?_;unfold St.init
 simp -implicitDefEqProofs[jJ,-natCast_add,-natCast_mul]
structure Bnd where
 v:List Int
 h:v.length=78
theorem Bnd.ext'{a b:Bnd}(h:a.v=b.v):a=b:=by cases a;cases b;simp only at h;subst h;rfl
def Bnd.ds(b:Bnd):List D:=b.v.map i64
def Bnd.cs(b:Bnd):List C:=b.v.map fun x=> .d (i64 x)
def Bnd.rs(b:Bnd):List RC:=b.v.map fun x=> .d (i64 x)
def Bnd.zero:Bnd:=⟨List.replicate 78 0,rfl⟩
def Bnd.P(b:Bnd)(k:Nat):Int:=b.v.getD k 0
def Bnd.S1(b:Bnd)(k:Nat):Int:=b.v.getD (26+k*2) 0
def Bnd.S2(b:Bnd)(k:Nat):Int:=b.v.getD (26+k*2+1) 0
def Bnd.setP(b:Bnd)(k:Nat)(x:Int):Bnd:=⟨b.v.set k x,by simp[b.h]⟩
def Bnd.setS(b:Bnd)(k:Nat)(x y:Int):Bnd:=⟨(b.v.set (26+k*2) x).set (26+k*2+1) y,by simp[b.h]⟩
section
variable (b:Bnd)
@[simp]theorem Bnd.cs_len:b.cs.length=78:=by simp[Bnd.cs,b.h]
@[simp]theorem Bnd.ds_len:b.ds.length=78:=by simp[Bnd.ds,b.h]
@[simp]theorem Bnd.map_ds:b.ds.map C.d=b.cs:=by simp[Bnd.cs,Bnd.ds]
@[simp]theorem Bnd.on_cs(g:Nat→C→C):b.cs.map (C.on g)=b.cs:=by simp[Bnd.cs]
@[simp]theorem Bnd.take_cs:b.cs.take 78=b.cs:=AI (by simp)
@[simp]theorem Bnd.splice_rep(z:C):splice 0 b.cs (List.replicate 78 z)=b.cs:=by simp[splice]
@[simp]theorem Bnd.splice_cs(b':Bnd):splice 0 b.cs b'.cs=b.cs:=by simp[splice,B7]
@[simp]theorem Bnd.toD_cs(ok:Nat→Bool)(h:List (Nat×Blk))(k:Nat):b.cs.mapM (toD ok h k)=some b.ds:=by
 unfold Bnd.cs Bnd.ds
 induction b.v with
 |nil=>rfl
 |cons a r ih=>
  have:toD ok h k (.d (i64 a))=some (i64 a):=by cases k<;>rfl
  simp only[List.map_cons,List.mapM_cons,this,ih];rfl
theorem QT(h:List (Nat×Blk)): ∀(k:Nat) (l:List C),(∀c∈l,c.id? =none)→A6 h k l=[]
 |0,_,_=>rfl
 |k+1,l,hl=>by
  unfold A6;rw[List.flatMap_eq_nil_iff];intro c hc;rw[hl c hc]
theorem Bnd.id_cs: ∀c∈b.cs,c.id? =none:=fun c hc=>by
 unfold Bnd.cs at hc;obtain⟨x,_,rfl⟩:=jzk.1 hc;rfl
theorem Cb(h:List (Nat×Blk))(k:Nat)(l1 l2:List C):A6 h k (l1++l2)=A6 h k l1++A6 h k l2:=by
 cases k with
 |zero=>rfl
 |succ k=>simp[A6,List.flatMap_append]
@[simp]theorem Bnd.reach_cs(h:List (Nat×Blk))(k:Nat):A6 h k b.cs=[]:=QT h k _ b.id_cs
theorem Cg(h:List (Nat×Blk))(k:Nat):A6 h k []=[]:=by cases k<;>rfl
theorem Ch(h:List (Nat×Blk))(k:Nat)(x:D)(l:List C):A6 h k (.d x::l)=A6 h k l:=by cases k<;>rfl
theorem jaM{h:List (Nat×Blk)}{i off n sz:Nat}{cs:List D}{app:Bool}(hl:lk i h=some (.row sz cs app))(k:Nat)(l:List C):A6 h (k+1) (.sl i off n::l)=i::A6 h (k+1) l:=by
 simp[A6,C.id?,hl]
@[simp]theorem Bnd.flatMap_reach(f:C→List Nat)(hf: ∀c,c.id? =none→f c=[]):b.cs.flatMap f=[]:=List.flatMap_eq_nil_iff.2 fun c hc=>hf c (b.id_cs c hc)
@[simp]theorem Bnd.noIds_cs:b.cs.all (fun c=>c.id?.isNone)=true:=jzy.2 fun c hc=>by rw[b.id_cs c hc];rfl
@[simp]theorem Bnd.men_cs(d:Nat):b.cs.any (C.men d)=false:=List.any_eq_false.2 fun c hc=>by simp[C.men,b.id_cs c hc]
@[simp]theorem Bnd.imp_rs(k:Nat):b.rs.map (RC.imp k)=b.cs:=by simp[Bnd.cs,Bnd.rs,RC.imp]
@[simp]theorem Bnd.rows_rs:b.rs.flatMap RC.rows=[]:=by
 rw[List.flatMap_eq_nil_iff]
 intro c hc;obtain⟨x,_,rfl⟩:=jzk.1 hc;rfl
@[simp]theorem Bnd.flat_rs:b.rs.all RC.flat=true:=jzy.2 fun c hc=>by
 obtain⟨x,_,rfl⟩:=jzk.1 hc
 rfl
theorem VH(st:St)(pure:Bool): ∀l:List Int,fitL (fitC st pure) (l.map fun x=>C.d (i64 x)) (l.map fun x=>RC.d (i64 x))
 |[]=>trivial
 |a::l=>⟨⟨fun _=>rfl,rfl⟩,VH st pure l⟩
@[simp]theorem Bnd.fit_rs(st:St)(pure:Bool):fitL (fitC st pure) b.cs b.rs:=VH st pure b.v
theorem Bnd.get_p{k:Nat}(hk:k<26):b.cs[k]? =some (.d (.int .i64 (b.P k))):=by
 have h1:k<b.v.length:=by rw[b.h];omega
 simp[Bnd.cs,Bnd.P,h1,i64]
theorem Bnd.set_p{k:Nat}(hk:k<26)(x:Int):splice k [.d (.int .i64 x)] b.cs=(b.setP k x).cs:=by
 have h1:k<b.cs.length:=by rw[b.cs_len];omega
 apply List.ext_getElem?
 intro j;rw[CL _ _ _ (by simp;omega)]
 have h2:k<b.v.length:=by rw[b.h];omega
 simp only[Bnd.cs,Bnd.setP,Bw,List.getElem?_set];by_cases e1:j=k
 ·subst e1;simp[h2,i64]
 ·rw[if_neg (by simp;omega),if_neg (by omega)]
theorem Bnd.get_s{k:Nat}(hk:k<26):(b.cs.drop (26+k*2)).take 2=[.d (.int .i64 (b.S1 k)),.d (.int .i64 (b.S2 k))]:=by
 have h1:26+k*2<b.v.length:=by rw[b.h];omega
 have h2:26+k*2+1<b.v.length:=by rw[b.h];omega
 unfold Bnd.cs
 apply List.ext_getElem?
 intro j;rw[List.getElem?_take,List.getElem?_drop,Bw]
 match j with
 |0=>simp[Bnd.S1,h1,i64]
 |1=>simp[Bnd.S2,h2,i64]
 |j+2=>simp;omega
theorem Bnd.set_s{k:Nat}(hk:k<26)(x y:Int):splice (26+k*2) [.d (.int .i64 x),.d (.int .i64 y)] b.cs=(b.setS k x y).cs:=by
 have h1:26+k*2+1<b.v.length:=by rw[b.h];omega
 apply List.ext_getElem?
 intro j;rw[CL _ _ _ (by simp;omega)]
 simp only[Bnd.cs,Bnd.setS,Bw,List.getElem?_set,List.length_set];by_cases e1:j=26+k*2
 ·subst e1;simp[show 26+k*2<b.v.length by omega,i64]
 ·by_cases e2:j=26+k*2+1
  ·subst e2;simp[h1,i64]
  ·rw[if_neg (by simp;omega),if_neg (by omega),if_neg (by omega)]
end
def Bnd.point(b:Bnd)(k:Nat)(p:Int):Option Bnd:=if b.P k≠0∧b.P k≠p+1 then none else some (b.setP k (p+1))
def Bnd.segment(b:Bnd)(k:Nat)(s:Int×Int):Option Bnd:=if ¬(b.S1 k=0∧b.S2 k=0)∧ ¬(b.S1 k=s.1+1∧b.S2 k=s.2+1) then none else some (b.setS k (s.1+1) (s.2+1))
def Bu(b:Bnd)(o:Option Bnd):R:= .tup [.agg (o.getD b).rs,.c (.d (.bool o.isSome))]
theorem EE(b:Bnd)(k:Nat)(hk:k<26)(p:Int)(hp: -1≤p∧p<1000000):
  CallsF Tryz.prog 184 [.agg b.ds,.c (.int .u8 ((65+k:Nat):Int)),.c (.int .i64 p)] (Bu b (b.point k p)):=by
 have e1:(((65+k:Nat):Int) - 65)%256=(k:Int):=by omega
 have g:=Bnd.get_p b hk;have s1:=Bnd.set_p b hk (p+1);have hb:b.point k p=if b.P k≠0∧b.P k≠p+1 then none else some (b.setP k (p+1)):=rfl;rw[hb];generalize b.P k=v at*;generalize b.setP k (p+1)=b' at*;unfold Bu;refine Ae (T:=tb) Ad mixed Tryz.func184 rfl (by decide) (Ac rfl) rfl ?_;unfold St.init
 simp -implicitDefEqProofs[jJ,-natCast_add,-natCast_mul,-natCast_emod,-natCast_ediv,-natCast_pow,-List.map_set,e1,g,-List.reduceReplicate];by_cases h1:v=0
 ·simp -implicitDefEqProofs[jJ,-natCast_add,-natCast_mul,-natCast_emod,-natCast_ediv,-natCast_pow,-List.map_set,h1,g,s1,-List.reduceReplicate];omega
 ·by_cases h2:v=p+1
  ·simp -implicitDefEqProofs[jJ,-natCast_add,-natCast_mul,-natCast_emod,-natCast_ediv,-natCast_pow,-List.map_set,h1,h2,g,s1,-List.reduceReplicate];omega
  ·simp -implicitDefEqProofs[jJ,-natCast_add,-natCast_mul,-natCast_emod,-natCast_ediv,-natCast_pow,-List.map_set,h1,h2,g,s1,-List.reduceReplicate];omega
theorem jcx(b:Bnd)(k:Nat)(hk:k<26)(p q:Int)(hp: -1≤p∧p<1000000)(hq: -1≤q∧q<1000000):
  CallsF Tryz.prog 245 [.agg b.ds,.c (.int .u8 ((97+k:Nat):Int)),.agg [.int .i64 p,.int .i64 q]] (Bu b (b.segment k (p,q))):=by
 have e1:(((97+k:Nat):Int) - 97)%256=(k:Int):=by omega
 have g:=Bnd.get_s b hk;have s1:=Bnd.set_s b hk (p+1) (q+1);have hb:b.segment k (p,q)=if ¬(b.S1 k=0∧b.S2 k=0)∧ ¬(b.S1 k=p+1∧b.S2 k=q+1) then none else some (b.setS k (p+1) (q+1)):=rfl;rw[hb];generalize b.S1 k=v1 at*;generalize b.S2 k=v2 at*;generalize b.setS k (p+1) (q+1)=b' at*;unfold Bu;refine Ae (T:=tb) Ad mixed Tryz.func245 rfl (by decide) (Ac rfl) rfl ?_;unfold St.init
 simp -implicitDefEqProofs[jJ,-natCast_add,-natCast_mul,-natCast_emod,-natCast_ediv,-natCast_pow,-List.map_set,e1,g,-List.reduceReplicate];refine⟨by omega,by omega,hk,?_⟩
 refine Af (Aj [0,1,3,0,15,31,63,127,255,63,1023,2047]) [.any [] [] (Ao [[9],[21],[22],[]]),.one,.one,.any [] [] (Ao [[9,26],[27,26],[28,26],[8,26]]),.one,.one] (by rfl) ?_
 simp -implicitDefEqProofs[jJ,-natCast_add,-natCast_mul,-natCast_emod,-natCast_ediv,-natCast_pow,-List.map_set,e1,g,-List.reduceReplicate];have fin:k≤25:=by omega
 have fin2:26+k*2≤76:=by omega
 rcases Classical.propComplete (v1=0)with a1|a1<;>rcases Classical.propComplete (v2=0)with a2|a2<;>rcases Classical.propComplete (v1=p+1)with b1|b1<;>rcases Classical.propComplete (v2=q+1)with b2|b2<;>
  simp -implicitDefEqProofs[jJ,-natCast_add,-natCast_mul,-natCast_emod,-natCast_ediv,-natCast_pow,-List.map_set,a1,a2,b1,b2,g,s1,fin2,-List.reduceReplicate]
theorem L4(c:Nat):CallsF Tryz.prog 188 [.c (.int .u8 (c:Int))] (.u (.c (.d (.bool (decide (97≤c)))))):=by
 refine Ae (T:=tb) Ad mixed Tryz.func188 rfl (by decide) (Ac rfl) rfl ?_;unfold St.init
 simp -implicitDefEqProofs[jJ,-natCast_add,-natCast_mul,-natCast_emod,-natCast_ediv,-natCast_pow,-List.map_set]
@[simp]theorem bs_size(l:List UInt8):(bs l).size=l.length:=by simp[bs,ByteArray.size]
theorem OK(l:List UInt8)(i:Nat):(bs l)[i]? =l[i]? :=by
 by_cases h:i<l.length
 ·rw[getElem?_pos (bs l) i (by simpa using h),Ai h]
  congr 1
 ·rw[getElem?_neg (bs l) i (by simpa using h),BG (by omega)]
@[simp]theorem bs_getE(l:List UInt8)(i:Nat)(h:i<(bs l).size):(bs l)[i]=l[i]'(by simpa using h):=rfl
theorem WI(l:List UInt8): ∀(n i:Nat) (r:List UInt8),n=l.length - i→i≤l.length→ByteArray.toList.loop (bs l) i r=r.reverse++l.drop i
 |0,i,r,h,hi=>by
  unfold ByteArray.toList.loop;rw[if_neg (by simp;omega),B7 (by omega),List.append_nil]
 |n+1,i,r,h,hi=>by
  have hlt:i<l.length:=by omega
  unfold ByteArray.toList.loop;rw[if_pos (by simpa using hlt),WI l n (i+1) _ (by omega) (by omega)]
  have e:(bs l).get! i=l[i]:=by simp[ByteArray.get!,bs,hlt]
  rw[e,AD hlt]
  simp
@[simp]theorem Wp(l:List UInt8):(bs l).toList=l:=by
 unfold ByteArray.toList;rw[WI l l.length 0 [] rfl (Nat.zero_le _)];simp
theorem ND(l:List UInt8)(n:Nat)(h:n≤l.length):(bs l).extract n (n+(l.length - n))=bs (l.drop n):=by
 unfold bs
 apply ByteArray.ext
 apply Array.ext'
 simp[ByteArray.extract,ByteArray.copySlice]
 exact AI (by simp)
def Cu(c:UInt8):Prop:=(65≤c.toNat∧c.toNat<91)∨(97≤c.toNat∧c.toNat<123)
def Bnd.Ok(b:Bnd):Prop:= ∀x∈b.v,0≤x∧x<2000000
theorem Bnd.Ok.p{b:Bnd}(h:b.Ok){k:Nat}(hk:k<26):0≤b.P k∧b.P k<2000000:=by
 have h1:k<b.v.length:=by rw[b.h];omega
 refine h _ ?_;simp[Bnd.P,h1]
theorem Bnd.Ok.s{b:Bnd}(h:b.Ok){k:Nat}(hk:k<26):(0≤b.S1 k∧b.S1 k<2000000)∧(0≤b.S2 k∧b.S2 k<2000000):=by
 have h1:26+k*2<b.v.length:=by rw[b.h];omega
 have h2:26+k*2+1<b.v.length:=by rw[b.h];omega
 refine⟨h _ ?_,h _ ?_⟩
 ·simp[Bnd.S1,h1]
 ·simp[Bnd.S2,h2]
def C4(b:Bnd)(c:UInt8):List Int:=if 97≤c.toNat then [b.S1 (c.toNat - 97) - 1,b.S2 (c.toNat - 97) - 1] else [b.P (c.toNat - 65) - 1]
def Bi(b:Bnd)(l:List UInt8):List Int:=l.flatMap (C4 b)
theorem Uj(b:Bnd)(hb:b.Ok)(l:List UInt8)(hl: ∀c∈l,Cu c)(hn:l.length≤1000):
  CallsF Tryz.prog 110 [.agg b.ds,.c (.str (bs l))] (.u (.c (.own 1 (Bi b l).length ((Bi b l).map i64)))):=by
 have hlen: ∀n,(Bi b (l.take n)).length≤2*n:=fun n=>by
  have: ∀l:List UInt8,(Bi b l).length≤2*l.length:=fun l=>by
   unfold Bi
   induction l with
   |nil=>simp
   |cons c r ih=>
    have:(C4 b c).length≤2:=by unfold C4;split<;>simp
    rw[List.flatMap_cons,List.length_append,List.length_cons];omega
  exact Nat.le_trans (this _) (by rw[AG];omega)
 refine Ae (T:=tb) Ad mixed Tryz.func110 rfl (by decide) (Ac rfl) rfl ?_;unfold St.init
 simp -implicitDefEqProofs[jJ,-natCast_add,-natCast_mul,-natCast_emod,-natCast_ediv,-natCast_pow,-List.reduceReplicate];refine BA [(5,32),(5,41)] (fun i:Nat=>⟨[(11,vI .i64 i),(10,vI .i64 l.length),(5,vC (.sl 5 0 (Bi b (l.take i)).length)),(2,vC (.ptr 2 0)),(1,vC (.d (.str (bs l))))],[(5,.row 1 ((Bi b (l.take i)).map i64) true),(2,.box b.cs)]⟩)
  (fun i=>i≤l.length) (fun i=>l.length - i) 0 (by simp[Bi]) (by omega) ?_
 rintro i hi
 by_cases h:i<l.length
 ·have e:Bi b (l.take (i+1))=Bi b (l.take i)++C4 b l[i]:=by
   rw[AQ h];unfold Bi;rw[List.flatMap_append];simp
  have hm:=hlen i;have hc:=hl l[i] (Ak h);have g0:(bs l)[i]? =some l[i]:=by rw[OK,Ai h]
  simp -implicitDefEqProofs[jJ,-natCast_add,-natCast_mul,-natCast_emod,-natCast_ediv,-natCast_pow,h,g0,-List.reduceReplicate];refine Aa (L4 l[i].toNat) ?_;by_cases h97:97≤l[i].toNat
  ·obtain⟨k,hk⟩: ∃k,l[i].toNat=97+k:=⟨l[i].toNat - 97,by omega⟩
   have hk26:k<26:=by unfold Cu at hc;omega
   have g1:=Bnd.get_s b hk26;have g2:=hb.s hk26;have e1:(((97+k:Nat):Int) - 97)%256=(k:Int):=by omega
   have e2:C4 b l[i]=[b.S1 k - 1,b.S2 k - 1]:=by unfold C4;rw[if_pos h97,hk];simp
   simp -implicitDefEqProofs[jJ,-natCast_add,-natCast_mul,-natCast_emod,-natCast_ediv,-natCast_pow,hk,g1,e1,-List.reduceReplicate];exact⟨hk26,by omega,by omega,by omega,by omega,by omega,i+1,⟨⟨rfl,by rw[e,e2];simp⟩,by rw[e,e2];simp[i64]⟩,by omega,by omega⟩
  ·obtain⟨k,hk⟩: ∃k,l[i].toNat=65+k:=⟨l[i].toNat - 65,by unfold Cu at hc;omega⟩
   have hk26:k<26:=by unfold Cu at hc;omega
   have g1:=Bnd.get_p b hk26;have g2:=hb.p hk26;have e1:(((65+k:Nat):Int) - 65)%256=(k:Int):=by omega
   have e2:C4 b l[i]=[b.P k - 1]:=by unfold C4;rw[if_neg h97,hk];simp
   have e3:(97≤65+k)=False:=by simp;omega
   simp -implicitDefEqProofs[jJ,-natCast_add,-natCast_mul,-natCast_emod,-natCast_ediv,-natCast_pow,e3,hk,g1,e1,-List.reduceReplicate];exact⟨hk26,by omega,by omega,by omega,i+1,⟨⟨rfl,by rw[e,e2];simp⟩,by rw[e,e2];simp[i64]⟩,by omega,by omega⟩
 ·have hi2:i=l.length:=by omega
  subst hi2;simp -implicitDefEqProofs[jJ,-natCast_add,-natCast_mul,-natCast_emod,-natCast_ediv,-natCast_pow,-List.reduceReplicate]
end Go.Va
