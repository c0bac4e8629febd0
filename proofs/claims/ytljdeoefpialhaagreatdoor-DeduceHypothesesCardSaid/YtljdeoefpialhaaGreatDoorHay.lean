/- a part of the proof -/
import Derived.Test.YtljdeoefpialhaaGreatDoorHat
import Derived.Test.YtljdeoefpialhaaGreatDoorHax
import Derived.Test.YtljdeoefpialhaaGreatDoorHaw
set_option linter.all false
set_option maxHeartbeats 4000000
set_option maxRecDepth 100000
namespace Go.Va
open Int renaming natCast_add → qA, natCast_mul → qB, natCast_emod → qC, natCast_ediv → qD, natCast_pow → qE
open List renaming reduceReplicate → qF
open Go.Proofs
section
variable {α:Type} {k:Nat} {e:α→List D} (he: ∀x,(e x).length=k)
include he
theorem Qw(l:List α):(l.flatMap e).length=l.length*k:=by
 induction l with
 |nil=>simp
 |cons a l ih=>rw[List.flatMap_cons,List.length_append,he,ih,List.length_cons,Nat.add_mul,Nat.one_mul,Nat.add_comm]
theorem jdj(l:List α)(i:Nat):(l.flatMap e).drop (i*k)=(l.drop i).flatMap e:=by
 induction l generalizing i with
 |nil=>simp
 |cons a l ih=>
  cases i with
  |zero=>simp
  |succ i=>
   rw[List.flatMap_cons,List.drop_succ_cons,List.drop_append,DU (by rw[he,Nat.add_mul];omega),he,List.nil_append,Nat.add_mul,Nat.one_mul,Nat.add_sub_cancel,ih]
theorem jnj(l:List α)(i:Nat):(l.flatMap e).take (i*k)=(l.take i).flatMap e:=by
 induction l generalizing i with
 |nil=>simp
 |cons a l ih=>
  cases i with
  |zero=>simp
  |succ i=>
   rw[List.flatMap_cons,List.take_succ_cons,List.flatMap_cons,List.take_append,Ba (by rw[he,Nat.add_mul];omega),he,Nat.add_mul,Nat.one_mul,Nat.add_sub_cancel,ih]
end
def Ga(s:Int×Int):List D:=[i64 s.1,i64 s.2]
theorem R6(s:Int×Int):(Ga s).length=2:=rfl
theorem Fct.ds_len(f:Fct):f.ds.length=5:=rfl
@[simp high]theorem jns(l:List (Int×Int)):(l.flatMap Ga).length=l.length*2:=Qw R6 l
@[simp high]theorem jfm(l:List Fct):(l.flatMap Fct.ds).length=l.length*5:=Qw Fct.ds_len l
def Hc(l:List (Int×Int)):D:= .slice l.length (l.flatMap Ga)
def AQ(l:List Fct):D:= .slice l.length (l.flatMap Fct.ds)
@[simp]theorem jkY(l:List (Int×Int)):lenC (.d (Hc l))=some l.length:=rfl
@[simp]theorem jkS(l:List Fct):lenC (.d (AQ l))=some l.length:=rfl
@[simp]theorem jnE(h:List (Nat×Blk))(i:Int)(l:List (Int×Int)):idxSl h 2 i (.d (Hc l))=if 0≤i∧i<l.length then some (.d (.ref ((l.drop i.toNat).flatMap Ga))) else none:=by
 unfold Hc idxSl;simp only[jns,and_true,jdj R6]
@[simp]theorem jnG(h:List (Nat×Blk))(i:Int)(l:List Fct):idxSl h 5 i (.d (AQ l))=if 0≤i∧i<l.length then some (.d (.ref ((l.drop i.toNat).flatMap Fct.ds))) else none:=by
 unfold AQ idxSl;simp only[jfm,and_true,jdj Fct.ds_len]
@[simp]theorem jkT(l:List (Int×Int)):D.flat (Hc l)=false:=rfl
@[simp]theorem jkW(l:List Fct):D.flat (AQ l)=false:=rfl
theorem UC{l:List (Int×Int)}{i:Nat}(h:i<l.length):(l.drop i).flatMap Ga= .int .i64 l[i].1:: .int .i64 l[i].2::(l.drop (i+1)).flatMap Ga:=by
 rw[BQ h];rfl
theorem Gg{l:List Fct}{i:Nat}(h:i<l.length):(l.drop i).flatMap Fct.ds= .int .i64 l[i].kind::intsD l[i].args:: .bool l[i].neg::Ad l[i].abs::Ad l[i].den::(l.drop (i+1)).flatMap Fct.ds:=by
 rw[BQ h];rfl
def lo(a b:Int):Int:=if b<a then b else a
def hi(a b:Int):Int:=if a<b then b else a
def A7(a b:Int):Int×Int:=(lo a b,hi a b)
theorem Pn(a b:Int):CallsF Tryz.prog 126 [.c (.int .i64 a),.c (.int .i64 b)] (.u (.agg [.d (.int .i64 (lo a b)),.d (.int .i64 (hi a b))])):=by
 refine cO Tryz.func126 rfl ?_;simp -implicitDefEqProofs[jJ,-qA,-qB,-qC,-qD,-qE,lo,hi]
theorem Dk(a b:Int):CallsF Tryz.prog 104 [.c (.int .i64 a),.c (.int .i64 b)] (.u (.agg [.d (.int .i64 (lo a b)),.d (.int .i64 (hi a b))])):=by
 refine cO Tryz.func104 rfl ?_;simp -implicitDefEqProofs[jJ,-qA,-qB,-qC,-qD,-qE,lo,hi]
def CZ:List Int→List (Int×Int)
 |a::b::l=>A7 a b::CZ l
 |_=>[]
theorem Ka: ∀l:List Int,(CZ l).length=l.length/2
 |[]=>rfl
 |[a]=>by simp[CZ]
 |a::b::l=>by
  simp only[CZ,List.length_cons,Ka l];omega
theorem SU: ∀(l:List Int) (m:Nat) (h:2*m+1<l.length),(CZ l)[m]'(by rw[Ka];omega)=A7 (l[2*m]'(by omega)) l[2*m+1]
 |a::b::l,0,_=>rfl
 |a::b::l,m+1,h=>by
  have:=SU l m (by simp at h;omega)
  simp only[CZ,List.getElem_cons_succ,this];rfl
theorem jdC{l:List Int}{m:Nat}(h:2*m+1<l.length):((CZ l).take (m+1)).flatMap Ga=((CZ l).take m).flatMap Ga++[.int .i64 (lo (l[2*m]'(by omega)) l[2*m+1]),.int .i64 (hi (l[2*m]'(by omega)) l[2*m+1])]:=by
 rw[Cr (by rw[Ka];omega),List.flatMap_append,SU l m h]
 rfl
theorem UQ(f:Fct)(hl:f.args.length≤1099511627776):CallsF Tryz.prog 53 [.agg f.ds] (.u (.c (.own 2 (CZ f.args).length ((CZ f.args).flatMap Ga)))):=by
 refine cO Tryz.func53 rfl ?_;obtain⟨kind,args,neg,abs,den⟩:=f;simp only at hl;simp -implicitDefEqProofs[jJ,-qA,-qB,-qC,-qD,-qE];refine CE [(3,27)] (fun x:Nat×Nat×List D=>⟨[(4,vI .i64 x.1),(3,vC (.sl 3 0 x.2.1)),(1,vC (.ptr 1 0))],[(3,.row 2 x.2.2 true),(1,.box [.d (.int .i64 kind),.d (intsD args),.d (.bool neg),.d (Ad abs),.d (Ad den)])]⟩) (fun x=>x.1=2*x.2.1∧x.2.1≤(CZ args).length∧x.2.2=((CZ args).take x.2.1).flatMap Ga) (fun x=>(CZ args).length - x.2.1) (0,0,[]) (by simp) (by simp) ?_
 rintro⟨i,m,cs⟩ ⟨hm2,hm,hc⟩
 simp only at hm2 hm hc;subst hc;have hlen:=Ka args;by_cases h:i+1<args.length
 ·have e:=jdC (l:=args) (m:=m) (by omega)
  have e1:args[2*m]'(by omega)=args[i]:=by simp only[hm2]
  have e2:args[2*m+1]'(by omega)=args[i+1]:=by simp only[hm2]
  rw[e1,e2]at e
  have hb:i≤9223372036854775806:=by omega
  have h0:i<args.length:=by omega
  simp -implicitDefEqProofs[jJ,-qA,-qB,-qC,-qD,-qE,h,hb];refine AA (Ah [0,0,2,0,14,30,0,64,0,256,960,1984,4094,8190,16383,32767]) [.any [] [26] ([⟨0,[3],[26],[26],[]⟩]++AG [26] [[1],[14],[4],[15,16],[17],[1],[19],[4],[21],[20,22],[23],[18,24]]++[⟨1,[25],[],[],[]⟩]),.one,.one] (by rfl) ?_
  simp -implicitDefEqProofs[jJ,-qA,-qB,-qC,-qD,-qE,h,h0,hb,i64];refine Ae (Pn args[i] args[i+1]) ?_;simp -implicitDefEqProofs[jJ,-qA,-qB,-qC,-qD,-qE];rw[Bs hm];exact⟨rfl,⟨by omega,by omega⟩,by omega,i+2,m+1,_,⟨⟨rfl,rfl⟩,rfl⟩,⟨by omega,by omega,e.symm⟩,by omega⟩
 ·have hb:i≤9223372036854775806:=by omega
  have e:m=(CZ args).length:=by omega
  subst e;simp -implicitDefEqProofs[jJ,-qA,-qB,-qC,-qD,-qE,h,hb]
def C1(l:List (Int×Int)):List Int:=l.flatMap fun s=>[s.1,s.2]
theorem Mq(l:List (Int×Int)):(C1 l).length=l.length*2:=by
 induction l with
 |nil=>rfl
 |cons a l ih=>simp only[C1,List.flatMap_cons,List.length_append,List.length_cons,List.length_nil]at ih ⊢;omega
theorem FT(a b:Int):CallsF Tryz.prog 54 [.agg [.int .i64 a,.int .i64 b]] (.u (.c (.d (.bool (decide (a=b)))))):=by
 refine cO Tryz.func54 rfl ?_;simp -implicitDefEqProofs[jJ,-qA,-qB,-qC,-qD,-qE]
theorem PD(a b p:Int):CallsF Tryz.prog 188 [.agg [.int .i64 a,.int .i64 b],.c (.int .i64 p)] (.u (.c (.d (.bool (decide (a=p)||decide (b=p)))))):=by
 refine cO Tryz.func188 rfl ?_;by_cases h:a=p<;>simp -implicitDefEqProofs[jJ,-qA,-qB,-qC,-qD,-qE,h]
def oth(a b p:Int):Int:=a+b - p
theorem SX(a b p:Int)(ha:0≤a∧a<64)(hb:0≤b∧b<64)(hp:0≤p∧p<64):CallsF Tryz.prog 189 [.agg [.int .i64 a,.int .i64 b],.c (.int .i64 p)] (.u (.c (.d (.int .i64 (oth a b p))))):=by
 refine cO Tryz.func189 rfl ?_;simp -implicitDefEqProofs[jJ,-qA,-qB,-qC,-qD,-qE,oth];omega
def A6(p q:Int×Int):Int:=BV [cmpZ p.1 q.1,cmpZ p.2 q.2]
theorem Hw(a b c d:Int):CallsF Tryz.prog 190 [.agg [.int .i64 a,.int .i64 b],.agg [.int .i64 c,.int .i64 d]] (.u (.c (.d (.int .i64 (A6 (a,b) (c,d)))))):=by
 refine cO Tryz.func190 rfl ?_;have k:CallsF Tryz.prog 67 [.c (.slice 2 [.int .i64 (cmpZ a c),.int .i64 (cmpZ b d)])] _:=S8 [cmpZ a c,cmpZ b d] (by simp)
 simp -implicitDefEqProofs[jJ,-qA,-qB,-qC,-qD,-qE];refine AA (Ah [0,1,0,4,15,0,32,0,128,511,1023,2047,4095]) [.any [] [] (Aq [[2],[5],[3],[7],[6,8],[2],[10],[3],[12]]),.one,.one,.one,.one] (by rfl) ?_
 simp -implicitDefEqProofs[jJ,-qA,-qB,-qC,-qD,-qE];refine Ae (PX a c) ?_;simp -implicitDefEqProofs[jJ,-qA,-qB,-qC,-qD,-qE];refine Ac (PX b d) ?_;simp -implicitDefEqProofs[jJ,-qA,-qB,-qC,-qD,-qE];refine Ac k ?_;simp -implicitDefEqProofs[jJ,-qA,-qB,-qC,-qD,-qE,A6]
theorem Oj(kind:Int)(neg:Bool)(abs den:List Nat)(l:List (Int×Int))(hl:l.length≤1099511627776):CallsF Tryz.prog 191 [.c (.int .i64 kind),.agg [.bool neg,Ad abs,Ad den],.c (Hc l)]
  (.u (.agg [.d (.int .i64 kind),.d (intsD (C1 l)),.d (.bool neg),.d (Ad abs),.d (Ad den)])):=by
 refine cO Tryz.func191 rfl ?_;simp -implicitDefEqProofs[jJ,-qA,-qB,-qC,-qD,-qE];refine AV (fun i:Nat=>⟨[(15,vI .i64 i),(14,vI .i64 l.length),(13,vC (.d (Hc l))),(7,vC (.ptr 7 0)),(6,vC (.ptr 6 0))],match i with
  |0=>[(7,.box [.d (.int .i64 kind),.nl,.d (.bool neg),.d (Ad abs),.d (Ad den)]),(6,.box [.d (.int .i64 0),.nl,.d (.bool false),.nl,.nl])]
  |n+1=>[(7,.box [.d (.int .i64 kind),.sl 26 0 ((n+1)*2),.d (.bool neg),.d (Ad abs),.d (Ad den)]),(6,.box [.d (.int .i64 0),.nl,.d (.bool false),.nl,.nl]),(26,.row 1 ((C1 (l.take (n+1))).map i64) true)]⟩)
  (fun i=>i≤l.length) (fun i=>l.length - i) 0 (by simp) (by omega) ?_
 rintro i hi
 by_cases h:i<l.length
 ·have e:C1 (l.take (i+1))=C1 (l.take i)++[l[i].1,l[i].2]:=by
   rw[Cr h];unfold C1;rw[List.flatMap_append];rfl
  have e2:=UC h;have e3:=Mq (l.take i);rw[A8,Bs (by omega)]at e3
  cases i with
  |zero=>
   have e4:(C1 (l.take 1)).map i64=[.int .i64 l[0].1,.int .i64 l[0].2]:=by rw[e];rfl
   rw[List.drop_zero]at e2
   simp -implicitDefEqProofs[jJ,-qA,-qB,-qC,-qD,-qE,h,e2,e4];exact⟨1,⟨rfl,by simp[AW,lk,e4]⟩,by omega,by omega⟩
  |succ n=>
   simp -implicitDefEqProofs[jJ,-qA,-qB,-qC,-qD,-qE,h,e2,e,e3];refine⟨by omega,by omega,n+2,⟨rfl,?_⟩,by omega,by omega⟩
   have e5:(n+1)*2+2=(n+1+1)*2:=by omega
   simp[AW,lk,e,e5]
   exact⟨rfl,rfl⟩
 ·have hi2:i=l.length:=by omega
  cases i with
  |zero=>
   have:l=[]:=jzv.1 hi2.symm
   subst this;simp -implicitDefEqProofs[jJ,-qA,-qB,-qC,-qD,-qE];rfl
  |succ n=>
   have e3:=Mq l;simp -implicitDefEqProofs[jJ,-qA,-qB,-qC,-qD,-qE,h];rw[hi2,BM,←e3,Ba (by simp)]
   refine⟨AO _,rfl⟩
theorem Qa(neg:Bool)(a b:List Nat)(ha:Ok a)(hl:a.length≤70368744177000)(hb:Ok b)(hm:b.length≤70368744177000):
  CallsF Tryz.prog 94 [.agg [.bool neg,Ad a,Ad b]] (.u (.c (.d (.bool (ratOk neg a b))))):=by
 have k:=Ta neg a (by omega)
 have v:=KZ b (by omega)
 have g:=Ku a b ha (by omega) hb (by omega)
 have hgl:(limbs (Nat.gcd (val a) (val b))).length≤70368744177000:=by
  rcases Nat.eq_zero_or_pos (val b)with h|h
  ·rw[h,Nat.gcd_zero_right]
   have:=Bu a ha
   omega
  ·have:=CG (Nat.gcd_le_right (val a) h)
   have:=Bu b hb
   omega
 have s:=T9 (limbs (Nat.gcd (val a) (val b))) (limbs 1) (by omega)
 unfold ratOk;clear hgl ha hb hl hm;refine cO Tryz.func94 rfl ?_;cases hr:(lastOk a&& !(neg&&decide (a=[])))
 ·rw[hr]at k
  simp -implicitDefEqProofs[jJ,-qA,-qB]
  (first|refine Ac k ?_|refine Ae k ?_)
  simp -implicitDefEqProofs[jJ,-qA,-qB]
 ·rw[hr]at k
  simp -implicitDefEqProofs[jJ,-qA,-qB]
  (first|refine Ac k ?_|refine Ae k ?_)
  simp -implicitDefEqProofs[jJ,-qA,-qB]
  (first|refine Ac v ?_|refine Ae v ?_)
  cases hv:lastOk b
  ·simp -implicitDefEqProofs[jJ,-qA,-qB]
  ·simp -implicitDefEqProofs[jJ,-qA,-qB]
   (first|refine Ac g ?_|refine Ae g ?_)
   simp -implicitDefEqProofs[jJ,-qA,-qB]
   (first|refine Ac (C6 1 (by omega)) ?_|refine Ae (C6 1 (by omega)) ?_)
   simp -implicitDefEqProofs[jJ,-qA,-qB]
   (first|refine Ac s ?_|refine Ae s ?_)
   simp -implicitDefEqProofs[jJ,-qA,-qB];simp only[Ea,Hx];refine⟨fun h1=> ?_,fun h1 _ h2=>h1 h2⟩
   cases b<;>simp[h1]
structure Stp where
 kind:Int
 name:ByteArray
 args:List Int
 neg:Bool
 abs:List Nat
 den:List Nat
def Stp.ds(s:Stp):List D:=[.int .i64 s.kind,.str s.name,intsD s.args,.bool s.neg,Ad s.abs,Ad s.den]
theorem Stp.ds_len(s:Stp):s.ds.length=6:=rfl
def Bx(l:List Stp):D:= .slice l.length (l.flatMap Stp.ds)
@[simp high]theorem Qu(l:List Stp):(l.flatMap Stp.ds).length=l.length*6:=Qw Stp.ds_len l
@[simp]theorem jk4(l:List Stp):lenC (.d (Bx l))=some l.length:=rfl
@[simp]theorem jlh(l:List Stp):D.flat (Bx l)=false:=rfl
@[simp]theorem jnQ(h:List (Nat×Blk))(i:Int)(l:List Stp):idxSl h 6 i (.d (Bx l))=if 0≤i∧i<l.length then some (.d (.ref ((l.drop i.toNat).flatMap Stp.ds))) else none:=by
 unfold Bx idxSl;simp only[Qu,and_true,jdj Stp.ds_len]
theorem E3{l:List Stp}{i:Nat}(h:i<l.length):(l.drop i).flatMap Stp.ds= .int .i64 l[i].kind:: .str l[i].name::intsD l[i].args:: .bool l[i].neg::Ad l[i].abs::Ad l[i].den::(l.drop (i+1)).flatMap Stp.ds:=by
 rw[BQ h];rfl
structure Stp.Ok (s:Stp):Prop where
 oa:Va.Ok s.abs
 od:Va.Ok s.den
 la:s.abs.length≤70368744177000
 ld:s.den.length≤70368744177000
def stepN(k:Int):Int:=
 if k=1 then 0 else if k=2∨k=5∨k=6∨k=14 then 2 else if k=3∨k=4∨k=7∨k=8∨k=10∨k=11 then 3 else if k=9∨k=12∨k=13 then 4 else -1
theorem Jg(k:Int):k=1∨k=2∨k=3∨k=4∨k=5∨k=6∨k=7∨k=8∨k=9∨k=10∨k=11∨k=12∨k=13∨k=14∨(¬k=1∧ ¬k=2∧ ¬k=3∧ ¬k=4∧ ¬k=5∧ ¬k=6∧ ¬k=7∧ ¬k=8∧ ¬k=9∧ ¬k=10∧ ¬k=11∧ ¬k=12∧ ¬k=13∧ ¬k=14):=by omega
theorem jfV(k:Int):CallsF Tryz.prog 93 [.c (.int .i64 k)] (.u (.c (.d (.int .i64 (stepN k))))):=by
 unfold stepN;refine cO Tryz.func93 rfl ?_;rcases Jg k with h|h|h|h|h|h|h|h|h|h|h|h|h|h|h
 all_goals first|(subst h;simp -implicitDefEqProofs[jJ,-qA,-qB])|(obtain⟨e1,e2,e3,e4,e5,e6,e7,e8,e9,e10,e11,e12,e13,e14⟩:=h;simp -implicitDefEqProofs[jJ,-qA,-qB,e1,e2,e3,e4,e5,e6,e7,e8,e9,e10,e11,e12,e13,e14])
theorem jcv(k:Int):CallsF Tryz.prog 71 [.c (.int .i64 k)] (.u (.c (.d (.int .i64 (stepN k))))):=by
 unfold stepN;refine cO Tryz.func71 rfl ?_;rcases Jg k with h|h|h|h|h|h|h|h|h|h|h|h|h|h|h
 all_goals first|(subst h;simp -implicitDefEqProofs[jJ,-qA,-qB])|(obtain⟨e1,e2,e3,e4,e5,e6,e7,e8,e9,e10,e11,e12,e13,e14⟩:=h;simp -implicitDefEqProofs[jJ,-qA,-qB,e1,e2,e3,e4,e5,e6,e7,e8,e9,e10,e11,e12,e13,e14])
theorem jeX(neg:Bool)(a b:List Nat):CallsF Tryz.prog 95 [.agg [.bool neg,Ad a,Ad b]] (.u (.c (.d (.bool (noRat neg a b))))):=by
 refine cO Tryz.func95 rfl ?_;cases neg<;>cases a<;>cases b<;>simp -implicitDefEqProofs[jJ,-qA,-qB,noRat]
theorem jiM(neg:Bool)(a b:List Nat):CallsF Tryz.prog 75 [.agg [.bool neg,Ad a,Ad b]] (.u (.c (.d (.bool (noRat neg a b))))):=by
 refine cO Tryz.func75 rfl ?_;cases neg<;>cases a<;>cases b<;>simp -implicitDefEqProofs[jJ,-qA,-qB,noRat]
end Go.Va
namespace Go.Va
open Go.Proofs
def bs(l:List UInt8):ByteArray:=⟨l.toArray⟩
structure Pat where
 kind:Int
 letters:List UInt8
 n:Int
def Pat.ds(p:Pat):List D:=[.int .i64 p.kind,.str (bs p.letters),.int .i64 p.n]
theorem Pat.ds_len(p:Pat):p.ds.length=3:=rfl
def MB(l:List Pat):D:= .slice l.length (l.flatMap Pat.ds)
structure Rul where
 name:List UInt8
 prem:List Pat
 concl:List Pat
 guards:List Pat
 count:Int
 derive:D
def Rul.ds(r:Rul):List D:=[.str (bs r.name),MB r.prem,MB r.concl,MB r.guards,.int .i64 r.count,r.derive]
def Rul.zero:Rul:=⟨[],[],[],[],0,.nilFn⟩
structure Bnd where
 v:List Int
 h:v.length=78
theorem Bnd.ext'{a b:Bnd}(h:a.v=b.v):a=b:=by cases a;cases b;simp only at h;subst h;rfl
def Bnd.ds(b:Bnd):List D:=b.v.map i64
def Bnd.cs(b:Bnd):List C:=b.v.map fun x=> .d (i64 x)
def Bnd.rs(b:Bnd):List RC:=b.v.map fun x=> .d (i64 x)
def Bnd.zero:Bnd:=⟨List.replicate 78 0,rfl⟩
def Bnd.P(b:Bnd)(k:Nat):Int:=b.v.getD k 0
def Bnd.S1(b:Bnd)(k:Nat):Int:=b.v.getD (26+k*2) 0
def Bnd.S2(b:Bnd)(k:Nat):Int:=b.v.getD (26+k*2+1) 0
section
variable (b:Bnd)
@[simp]theorem Bnd.ds_len:b.ds.length=78:=by simp[Bnd.ds,b.h]
@[simp]theorem Bnd.toD_cs(ok:Nat→Bool)(h:List (Nat×Blk))(k:Nat):b.cs.mapM (toD ok h k)=some b.ds:=by
 unfold Bnd.cs Bnd.ds
 induction b.v with
 |nil=>rfl
 |cons a r ih=>
  have:toD ok h k (.d (i64 a))=some (i64 a):=by cases k<;>rfl
  simp only[List.map_cons,List.mapM_cons,this,ih];rfl
theorem Bnd.id_cs: ∀c∈b.cs,c.id? =none:=fun c hc=>by
 unfold Bnd.cs at hc;obtain⟨x,_,rfl⟩:=jzk.1 hc;rfl
@[simp]theorem Bnd.noIds_cs:b.cs.all (fun c=>c.id?.isNone)=true:=jzy.2 fun c hc=>by rw[b.id_cs c hc];rfl
@[simp]theorem Bnd.rows_rs:b.rs.flatMap RC.rows=[]:=by
 rw[List.flatMap_eq_nil_iff]
 intro c hc;obtain⟨x,_,rfl⟩:=jzk.1 hc;rfl
@[simp]theorem Bnd.flat_rs:b.rs.all RC.flat=true:=jzy.2 fun c hc=>by
 obtain⟨x,_,rfl⟩:=jzk.1 hc
 rfl
end
@[simp]theorem bs_size(l:List UInt8):(bs l).size=l.length:=by simp[bs,ByteArray.size]
@[simp]theorem bs_getE(l:List UInt8)(i:Nat)(h:i<(bs l).size):(bs l)[i]=l[i]'(by simpa using h):=rfl
theorem Ry(l:List UInt8): ∀(n i:Nat) (r:List UInt8),n=l.length - i→i≤l.length→ByteArray.toList.loop (bs l) i r=r.reverse++l.drop i
 |0,i,r,h,hi=>by
  unfold ByteArray.toList.loop;rw[if_neg (by simp;omega),DU (by omega),List.append_nil]
 |n+1,i,r,h,hi=>by
  have hlt:i<l.length:=by omega
  unfold ByteArray.toList.loop;rw[if_pos (by simpa using hlt),Ry l n (i+1) _ (by omega) (by omega)]
  have e:(bs l).get! i=l[i]:=by simp[ByteArray.get!,bs,hlt]
  rw[e,BQ hlt]
  simp
@[simp]theorem jnl(l:List UInt8):(bs l).toList=l:=by
 unfold ByteArray.toList;rw[Ry l l.length 0 [] rfl (Nat.zero_le _)];simp
def Bnd.Ok(b:Bnd):Prop:= ∀x∈b.v,0≤x∧x<2000000
theorem Bnd.Ok.p{b:Bnd}(h:b.Ok){k:Nat}(hk:k<26):0≤b.P k∧b.P k<2000000:=by
 have h1:k<b.v.length:=by rw[b.h];omega
 refine h _ ?_;simp[Bnd.P,h1]
theorem Bnd.Ok.s{b:Bnd}(h:b.Ok){k:Nat}(hk:k<26):(0≤b.S1 k∧b.S1 k<2000000)∧(0≤b.S2 k∧b.S2 k<2000000):=by
 have h1:26+k*2<b.v.length:=by rw[b.h];omega
 have h2:26+k*2+1<b.v.length:=by rw[b.h];omega
 refine⟨h _ ?_,h _ ?_⟩
 ·simp[Bnd.S1,h1]
 ·simp[Bnd.S2,h2]
end Go.Va
namespace Go.Va
open Int renaming natCast_add → qA, natCast_mul → qB, natCast_emod → qC, natCast_ediv → qD, natCast_pow → qE
open List renaming reduceReplicate → qF
open Go.Proofs
def CY(b:Nat):Bool:=decide (65≤b∧b≤90)||decide (97≤b∧b≤122)
def DW(b:Nat):Bool:=decide (48≤b∧b≤57)
theorem Uf(b:Nat)(hb:b<256):CallsF Tryz.prog 169 [.c (.int .u8 b)] (.u (.c (.d (.bool (CY b))))):=by
 unfold CY;refine cO Tryz.func169 rfl ?_;by_cases h1:65≤b
 ·by_cases h2:b≤90
  ·simp -implicitDefEqProofs[jJ,-qA,-qB,h1,h2]
  ·by_cases h3:97≤b
   ·by_cases h4:b≤122
    ·simp -implicitDefEqProofs[jJ,-qA,-qB,h1,h2,h3,h4]
    ·simp -implicitDefEqProofs[jJ,-qA,-qB,h1,h2,h3,h4]
   ·simp -implicitDefEqProofs[jJ,-qA,-qB,h1,h2,h3]
 ·have h3: ¬97≤b:=by omega
  simp -implicitDefEqProofs[jJ,-qA,-qB,h1,h3]
theorem YY(b:Nat)(hb:b<256):CallsF Tryz.prog 170 [.c (.int .u8 b)] (.u (.c (.d (.bool (DW b))))):=by
 unfold DW;refine cO Tryz.func170 rfl ?_;by_cases h1:48≤b
 ·by_cases h2:b≤57
  ·simp -implicitDefEqProofs[jJ,-qA,-qB,h1,h2]
  ·simp -implicitDefEqProofs[jJ,-qA,-qB,h1,h2]
 ·simp -implicitDefEqProofs[jJ,-qA,-qB,h1]
theorem UZ(b:Nat)(hb:b<256): ∃k:Int,CallsF Tryz.prog 151 [.c (.int .u8 b)] (.u (.c (.d (.int .i64 k))))∧(k=2↔CY b=true)∧(k=3↔DW b=true):=by
 by_cases hl:97≤b∧b≤122∨65≤b∧b≤90
 ·refine⟨2,?_,by unfold CY;simp;omega,by unfold DW;simp;omega⟩
  have s1: ¬b=32:=by omega
  have s2: ¬b=9:=by omega
  have s3: ¬b=13:=by omega
  have s4: ¬b=10:=by omega
  by_cases h1:97≤b
  ·have h2:b≤122:=by omega
   refine cO Tryz.func151 rfl ?_;simp -implicitDefEqProofs[jJ,-qA,-qB,s1,s2,s3,s4,h1,h2]
  ·have h3:65≤b:=by omega
   have h4:b≤90:=by omega
   refine cO Tryz.func151 rfl ?_;simp -implicitDefEqProofs[jJ,-qA,-qB,s1,s2,s3,s4,h1,h3,h4]
 ·have hle:CY b=false:=by unfold CY;simp;omega
  by_cases hd:48≤b∧b≤57
  ·refine⟨3,?_,by rw[hle];simp,by unfold DW;simp;omega⟩
   have s1: ¬b=32:=by omega
   have s2: ¬b=9:=by omega
   have s3: ¬b=13:=by omega
   have s4: ¬b=10:=by omega
   have h1: ¬97≤b:=by omega
   have h2: ¬65≤b:=by omega
   refine cO Tryz.func151 rfl ?_;simp -implicitDefEqProofs[jJ,-qA,-qB,s1,s2,s3,s4,h1,h2,hd.1,hd.2]
  ·have hde:DW b=false:=by unfold DW;simp;omega
   by_cases e32:b=32
   ·subst e32;refine⟨1,?_,by decide,by decide⟩
    refine cO Tryz.func151 rfl ?_;simp -implicitDefEqProofs[jJ,-qA,-qB]
   by_cases e9:b=9
   ·subst e9;refine⟨1,?_,by decide,by decide⟩
    refine cO Tryz.func151 rfl ?_;simp -implicitDefEqProofs[jJ,-qA,-qB]
   by_cases e13:b=13
   ·subst e13;refine⟨1,?_,by decide,by decide⟩
    refine cO Tryz.func151 rfl ?_;simp -implicitDefEqProofs[jJ,-qA,-qB]
   by_cases e10:b=10
   ·subst e10;refine⟨1,?_,by decide,by decide⟩
    refine cO Tryz.func151 rfl ?_;simp -implicitDefEqProofs[jJ,-qA,-qB]
   by_cases e40:b=40
   ·subst e40;refine⟨4,?_,by decide,by decide⟩
    refine cO Tryz.func151 rfl ?_;simp -implicitDefEqProofs[jJ,-qA,-qB]
   by_cases e41:b=41
   ·subst e41;refine⟨4,?_,by decide,by decide⟩
    refine cO Tryz.func151 rfl ?_;simp -implicitDefEqProofs[jJ,-qA,-qB]
   by_cases e44:b=44
   ·subst e44;refine⟨4,?_,by decide,by decide⟩
    refine cO Tryz.func151 rfl ?_;simp -implicitDefEqProofs[jJ,-qA,-qB]
   by_cases e59:b=59
   ·subst e59;refine⟨4,?_,by decide,by decide⟩
    refine cO Tryz.func151 rfl ?_;simp -implicitDefEqProofs[jJ,-qA,-qB]
   by_cases e47:b=47
   ·subst e47;refine⟨4,?_,by decide,by decide⟩
    refine cO Tryz.func151 rfl ?_;simp -implicitDefEqProofs[jJ,-qA,-qB]
   by_cases e45:b=45
   ·subst e45;refine⟨4,?_,by decide,by decide⟩
    refine cO Tryz.func151 rfl ?_;simp -implicitDefEqProofs[jJ,-qA,-qB]
   by_cases e58:b=58
   ·subst e58;refine⟨5,?_,by decide,by decide⟩
    refine cO Tryz.func151 rfl ?_;simp -implicitDefEqProofs[jJ,-qA,-qB]
   by_cases e35:b=35
   ·subst e35;refine⟨6,?_,by decide,by decide⟩
    refine cO Tryz.func151 rfl ?_;simp -implicitDefEqProofs[jJ,-qA,-qB]
   refine⟨0,?_,by rw[hle];simp,by rw[hde];simp⟩
   clear hle hde;have a1:97≤b→ ¬b≤122:=by omega
   have a2:65≤b→ ¬b≤90:=by omega
   have a3:48≤b→ ¬b≤57:=by omega
   by_cases h1:97≤b
   ·have h2:65≤b:=by omega
    have h3:48≤b:=by omega
    refine cO Tryz.func151 rfl ?_;simp -implicitDefEqProofs[jJ,-qA,-qB,e32,e9,e13,e10,e40,e41,e44,e59,e47,e45,e58,e35,h1,h2,h3,a1 h1,a2 h2,a3 h3]
   ·by_cases h2:65≤b
    ·have h3:48≤b:=by omega
     refine cO Tryz.func151 rfl ?_;simp -implicitDefEqProofs[jJ,-qA,-qB,e32,e9,e13,e10,e40,e41,e44,e59,e47,e45,e58,e35,h1,h2,h3,a2 h2,a3 h3]
    ·by_cases h3:48≤b
     ·refine cO Tryz.func151 rfl ?_;simp -implicitDefEqProofs[jJ,-qA,-qB,e32,e9,e13,e10,e40,e41,e44,e59,e47,e45,e58,e35,h1,h2,h3,a3 h3]
     ·refine cO Tryz.func151 rfl ?_;simp -implicitDefEqProofs[jJ,-qA,-qB,e32,e9,e13,e10,e40,e41,e44,e59,e47,e45,e58,e35,h1,h2,h3]
def BS(x:UInt8):Bool:=CY x.toNat||DW x.toNat
def Hd(s:ByteArray):Nat:=(s.data.toList.takeWhile BS).length
theorem Md{α:Type}{p:α→Bool}: ∀{l:List α} {i:Nat},i≤l.length→(l.take i).all p=true→(∀x,l[i]? =some x→p x=false)→(l.takeWhile p).length=i
 |[],0,_,_,_=>rfl
 |[],i+1,h,_,_=>by simp at h
 |a::l,0,_,_,h=>by
  have:=h a rfl
  simp[this]
 |a::l,i+1,h1,h2,h3=>by
  simp only[List.take_succ_cons,List.all_cons,AR]at h2;rw[List.takeWhile_cons,if_pos h2.1,List.length_cons,Md (by simpa using h1) h2.2 fun x hx=>h3 x (by simpa using hx)]
theorem H9(s:ByteArray){i:Nat}(h:i<s.size):s.data.toList[i]? =some s[i]:=by
 have h':i<s.data.size:=h;rw[Array.getElem?_toList,Array.getElem?_eq_getElem h'];rfl
theorem IU(s:ByteArray):s.data.toList.length=s.size:=Array.length_toList
theorem Kq{s:ByteArray}{i:Nat}(h:i<s.size)(h2:(s.data.toList.take i).all BS=true)(h3:BS s[i]=true):(s.data.toList.take (i+1)).all BS=true:=by
 rw[List.take_add_one,H9 s h,List.all_append,h2]
 simp[h3]
theorem jdh(s:ByteArray)(hs:s.size≤1000):CallsF Tryz.prog 152 [.c (.str s),.c (.int .i64 0),.c (.bool true)] (.u (.c (.d (.int .i64 (Hd s))))):=by
 refine cO Tryz.func152 rfl ?_;simp -implicitDefEqProofs[jJ,-qA,-qB];refine AV (fun i:Nat=>⟨[(0,vC (.d (.str s))),(1,vI .i64 i),(2,vC (.d (.bool true)))],[]⟩)
  (fun i=>i≤s.size∧(s.data.toList.take i).all BS=true) (fun i=>s.size - i) 0 (by simp[AW,lk,St.le,vI,vC]) ⟨by omega,by simp⟩ ?_
 rintro i ⟨h1,h2⟩
 by_cases h:i<s.size
 ·obtain⟨k,hk,k2,k3⟩:=UZ (s[i]).toNat (s[i]).toNat_lt
  have hb:=H9 s h;by_cases d3:k=3
  ·have hn:=Kq h h2 (by unfold BS;rw[k3.1 d3,Bool.or_true])
   simp -implicitDefEqProofs[jJ,-qA,-qB,h]
   (first|refine Ac hk ?_|refine Ae hk ?_)
   simp -implicitDefEqProofs[jJ,-qA,-qB,d3];exact⟨by omega,⟨by omega,by rw[←jzy];exact hn⟩,by omega⟩
  ·by_cases d2:k=2
   ·have hn:=Kq h h2 (by unfold BS;rw[k2.1 d2,Bool.true_or])
    simp -implicitDefEqProofs[jJ,-qA,-qB,h]
    (first|refine Ac hk ?_|refine Ae hk ?_)
    simp -implicitDefEqProofs[jJ,-qA,-qB,d3,h]
    (first|refine Ac hk ?_|refine Ae hk ?_)
    simp -implicitDefEqProofs[jJ,-qA,-qB,d2];exact⟨by omega,⟨by omega,by rw[←jzy];exact hn⟩,by omega⟩
   ·have hf:Hd s=i:=Md (by rw[IU];omega) h2 fun x hx=>by
     rw[hb]at hx
     cases hx;unfold BS
     cases e1:CY s[i].toNat with
     |true=>exact absurd (k2.2 e1) d2
     |false=>cases e2:DW s[i].toNat with
      |true=>exact absurd (k3.2 e2) d3
      |false=>rfl
    simp -implicitDefEqProofs[jJ,-qA,-qB,h]
    (first|refine Ac hk ?_|refine Ae hk ?_)
    simp -implicitDefEqProofs[jJ,-qA,-qB,d3,h]
    (first|refine Ac hk ?_|refine Ae hk ?_)
    simp -implicitDefEqProofs[jJ,-qA,-qB,d2];rw[hf]
 ·have hf:Hd s=i:=Md (by rw[IU];omega) h2 fun x hx=>by
   rw[B9 (by rw[IU];omega)]at hx
   cases hx
  simp -implicitDefEqProofs[jJ,-qA,-qB,h];rw[hf]
def kwL:List ByteArray:=[⟨#[97,110,103,108,101]⟩,⟨#[97,112,101,120]⟩,⟨#[98,105,115,101,99,116,111,114]⟩,⟨#[99,101,110,116,101,114]⟩,⟨#[99,105,114,99,108,101]⟩,⟨#[99,105,114,99,117,109]⟩,⟨#[99,111,108,108,105,110,101,97,114]⟩,⟨#[99,111,109,109,111,110]⟩,⟨#[99,111,110,99,121,99,108,105,99]⟩,⟨#[99,111,110,103,114,117,101,110,116]⟩,⟨#[99,114,111,115,115]⟩,⟨#[99,117,116]⟩,⟨#[100,105,118,105,100,101]⟩,⟨#[102,111,111,116]⟩,⟨#[108,105,110,101]⟩,⟨#[109,101,101,116]⟩,⟨#[109,105,100,112,111,105,110,116]⟩,⟨#[109,105,114,114,111,114]⟩,⟨#[111,110]⟩,⟨#[111,116,104,101,114]⟩,⟨#[112,97,114,97,108,108,101,108]⟩,⟨#[112,101,114,112,101,110,100,105,99,117,108,97,114]⟩,⟨#[112,111,105,110,116,115]⟩,⟨#[112,114,111,118,101]⟩,⟨#[114,97,116,105,111]⟩,⟨#[114,101,102,108,101,99,116]⟩,⟨#[115,97,109,101]⟩,⟨#[115,104,105,102,116]⟩,⟨#[116,117,114,110]⟩]
theorem jja:CallsF Tryz.prog 153 [] (.u (.c (.own 1 29 (kwL.map D.str)))):=by
 refine cO Tryz.func153 rfl ?_;simp -implicitDefEqProofs[jJ,-qA,-qB];exact⟨rfl,rfl⟩
theorem Zr:CallsF Tryz.prog 171 [] (.u (.c (.own 1 29 (kwL.map D.str)))):=by
 refine cO Tryz.func171 rfl ?_;simp -implicitDefEqProofs[jJ,-qA,-qB];exact⟨rfl,rfl⟩
def nameB(s:ByteArray):Bool:=decide (s.size≠0)&&decide (s.size≤20)&&(s.data.toList.head?.any fun x=>CY x.toNat)&&s.data.toList.all BS&& !kwL.any fun w=>decide (w=s)
theorem Qj(s:ByteArray):s.toList=s.data.toList:=jnl s.data.toList
@[simp]theorem binS_eq(s t:ByteArray):G6 .eql s t=some (vB (decide (s=t))):=by
 unfold G6;rw[Qj,Qj];have:(s.data.toList==t.data.toList)=decide (s=t):=by
  rw[Bool.eq_iff_iff,beq_iff_eq,decide_eq_true_eq]
  constructor
  ·intro h;obtain⟨⟨a⟩⟩:=s;obtain⟨⟨b⟩⟩:=t;exact congrArg (fun l=>ByteArray.mk ⟨l⟩) h
  ·rintro rfl
   rfl
 simp only[this]
theorem TC{s:ByteArray}(h: ¬s={ data:= #[] }):0<s.size:=by
 rcases Nat.eq_zero_or_pos s.size with h0|h0
 ·obtain⟨⟨a⟩⟩:=s
  have:a.length=0:=h0
  rw[jzv]at this
  subst this;exact absurd rfl h
 ·exact h0
theorem SF{s:ByteArray}(h:0<s.size):s.data.toList.head? =some (s[0]'h):=by
 rw[List.head?_eq_getElem?]
 exact H9 s h
theorem endN_all{s:ByteArray}:Hd s<s.size↔s.data.toList.all BS=false:=by
 unfold Hd;rw[←IU s];generalize s.data.toList=l
 induction l with
 |nil=>simp
 |cons a l ih=>
  rw[List.takeWhile_cons]
  cases h:BS a with
  |true=>
   rw[if_pos rfl,List.length_cons,List.length_cons,List.all_cons,h,Bool.true_and,←ih]
   omega
  |false=>
   rw[if_neg (by simp),List.all_cons,h]
   simp
end Go.Va
