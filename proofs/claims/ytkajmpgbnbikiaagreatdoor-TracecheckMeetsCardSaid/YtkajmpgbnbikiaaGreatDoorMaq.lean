/- a part of the proof -/
import Derived.Test.YtkajmpgbnbikiaaGreatDoorMap
set_option linter.all false
set_option maxHeartbeats 4000000
set_option maxRecDepth 10000
namespace Go.Va
open Int (natCast_add natCast_mul natCast_emod natCast_ediv natCast_pow)
open Go.Proofs
structure Bnd where
 v:List Int
 h:v.length=78
theorem Bnd.ext'{a b:Bnd}(h:a.v=b.v):a=b:=by cases a;cases b;simp only at h;subst h;rfl
def Bnd.ds(b:Bnd):List D:=b.v.map i64
def Bnd.cs(b:Bnd):List C:=b.v.map fun x=> .d (i64 x)
def Bnd.rs(b:Bnd):List RC:=b.v.map fun x=> .d (i64 x)
def Bnd.zero:Bnd:=⟨List.replicate 78 0,rfl⟩
def Bnd.P(b:Bnd)(k:Nat):Int:=b.v.getD k 0
def Bnd.S1(b:Bnd)(k:Nat):Int:=b.v.getD (26+k*2) 0
def Bnd.S2(b:Bnd)(k:Nat):Int:=b.v.getD (26+k*2+1) 0
def Bnd.setP(b:Bnd)(k:Nat)(x:Int):Bnd:=⟨b.v.set k x,by simp[b.h]⟩
def Bnd.setS(b:Bnd)(k:Nat)(x y:Int):Bnd:=⟨(b.v.set (26+k*2) x).set (26+k*2+1) y,by simp[b.h]⟩
section
variable (b:Bnd)
@[simp]theorem Bnd.cs_len:b.cs.length=78:=by simp[Bnd.cs,b.h]
@[simp]theorem Bnd.ds_len:b.ds.length=78:=by simp[Bnd.ds,b.h]
@[simp]theorem Bnd.map_ds:b.ds.map C.d=b.cs:=by simp[Bnd.cs,Bnd.ds]
@[simp]theorem Bnd.on_cs(g:Nat→C→C):b.cs.map (C.on g)=b.cs:=by simp[Bnd.cs]
@[simp]theorem Bnd.take_cs:b.cs.take 78=b.cs:=AH (by simp)
@[simp]theorem Bnd.splice_rep(z:C):splice 0 b.cs (List.replicate 78 z)=b.cs:=by simp[splice]
@[simp]theorem Bnd.splice_cs(b':Bnd):splice 0 b.cs b'.cs=b.cs:=by simp[splice,Cg]
@[simp]theorem Bnd.toD_cs(ok:Nat→Bool)(h:List (Nat×Blk))(k:Nat):b.cs.mapM (toD ok h k)=some b.ds:=by
 unfold Bnd.cs Bnd.ds
 induction b.v with
 |nil=>rfl
 |cons a r ih=>
  have:toD ok h k (.d (i64 a))=some (i64 a):=by cases k<;>rfl
  simp only[List.map_cons,List.mapM_cons,this,ih];rfl
theorem jcM(h:List (Nat×Blk)): ∀(k:Nat) (l:List C),(∀c∈l,c.id? =none)→Bu h k l=[]
 |0,_,_=>rfl
 |k+1,l,hl=>by
  unfold Bu;rw[List.flatMap_eq_nil_iff];intro c hc;rw[hl c hc]
theorem Bnd.id_cs: ∀c∈b.cs,c.id? =none:=fun c hc=>by
 unfold Bnd.cs at hc;obtain⟨x,_,rfl⟩:=jzk.1 hc;rfl
theorem DY(h:List (Nat×Blk))(k:Nat)(l1 l2:List C):Bu h k (l1++l2)=Bu h k l1++Bu h k l2:=by
 cases k with
 |zero=>rfl
 |succ k=>simp[Bu,List.flatMap_append]
@[simp]theorem Bnd.reach_cs(h:List (Nat×Blk))(k:Nat):Bu h k b.cs=[]:=jcM h k _ b.id_cs
theorem D6(h:List (Nat×Blk))(k:Nat):Bu h k []=[]:=by cases k<;>rfl
theorem D7(h:List (Nat×Blk))(k:Nat)(x:D)(l:List C):Bu h k (.d x::l)=Bu h k l:=by cases k<;>rfl
theorem jd4{h:List (Nat×Blk)}{i off n sz:Nat}{cs:List D}{app:Bool}(hl:lk i h=some (.row sz cs app))(k:Nat)(l:List C):Bu h (k+1) (.sl i off n::l)=i::Bu h (k+1) l:=by
 simp[Bu,C.id?,hl]
@[simp]theorem Bnd.flatMap_reach(f:C→List Nat)(hf: ∀c,c.id? =none→f c=[]):b.cs.flatMap f=[]:=List.flatMap_eq_nil_iff.2 fun c hc=>hf c (b.id_cs c hc)
@[simp]theorem Bnd.noIds_cs:b.cs.all (fun c=>c.id?.isNone)=true:=jzy.2 fun c hc=>by rw[b.id_cs c hc];rfl
@[simp]theorem Bnd.men_cs(d:Nat):b.cs.any (C.men d)=false:=List.any_eq_false.2 fun c hc=>by simp[C.men,b.id_cs c hc]
@[simp]theorem Bnd.imp_rs(k:Nat):b.rs.map (RC.imp k)=b.cs:=by simp[Bnd.cs,Bnd.rs,RC.imp]
@[simp]theorem Bnd.rows_rs:b.rs.flatMap RC.rows=[]:=by
 rw[List.flatMap_eq_nil_iff]
 intro c hc;obtain⟨x,_,rfl⟩:=jzk.1 hc;rfl
@[simp]theorem Bnd.flat_rs:b.rs.all RC.flat=true:=jzy.2 fun c hc=>by
 obtain⟨x,_,rfl⟩:=jzk.1 hc
 rfl
theorem Ux(st:St)(pure:Bool): ∀l:List Int,fitL (fitC st pure) (l.map fun x=>C.d (i64 x)) (l.map fun x=>RC.d (i64 x))
 |[]=>trivial
 |a::l=>⟨⟨fun _=>rfl,rfl⟩,Ux st pure l⟩
@[simp]theorem Bnd.fit_rs(st:St)(pure:Bool):fitL (fitC st pure) b.cs b.rs:=Ux st pure b.v
theorem Bnd.get_p{k:Nat}(hk:k<26):b.cs[k]? =some (.d (.int .i64 (b.P k))):=by
 have h1:k<b.v.length:=by rw[b.h];omega
 simp[Bnd.cs,Bnd.P,h1,i64]
theorem Bnd.set_p{k:Nat}(hk:k<26)(x:Int):splice k [.d (.int .i64 x)] b.cs=(b.setP k x).cs:=by
 have h1:k<b.cs.length:=by rw[b.cs_len];omega
 apply List.ext_getElem?
 intro j;rw[Cs _ _ _ (by simp;omega)]
 have h2:k<b.v.length:=by rw[b.h];omega
 simp only[Bnd.cs,Bnd.setP,Bi,List.getElem?_set];by_cases e1:j=k
 ·subst e1;simp[h2,i64]
 ·rw[if_neg (by simp;omega),if_neg (by omega)]
theorem Bnd.get_s{k:Nat}(hk:k<26):(b.cs.drop (26+k*2)).take 2=[.d (.int .i64 (b.S1 k)),.d (.int .i64 (b.S2 k))]:=by
 have h1:26+k*2<b.v.length:=by rw[b.h];omega
 have h2:26+k*2+1<b.v.length:=by rw[b.h];omega
 unfold Bnd.cs
 apply List.ext_getElem?
 intro j;rw[List.getElem?_take,List.getElem?_drop,Bi]
 match j with
 |0=>simp[Bnd.S1,h1,i64]
 |1=>simp[Bnd.S2,h2,i64]
 |j+2=>simp;omega
theorem Bnd.set_s{k:Nat}(hk:k<26)(x y:Int):splice (26+k*2) [.d (.int .i64 x),.d (.int .i64 y)] b.cs=(b.setS k x y).cs:=by
 have h1:26+k*2+1<b.v.length:=by rw[b.h];omega
 apply List.ext_getElem?
 intro j;rw[Cs _ _ _ (by simp;omega)]
 simp only[Bnd.cs,Bnd.setS,Bi,List.getElem?_set,List.length_set];by_cases e1:j=26+k*2
 ·subst e1;simp[show 26+k*2<b.v.length by omega,i64]
 ·by_cases e2:j=26+k*2+1
  ·subst e2;simp[h1,i64]
  ·rw[if_neg (by simp;omega),if_neg (by omega),if_neg (by omega)]
end
def Bnd.point(b:Bnd)(k:Nat)(p:Int):Option Bnd:=if b.P k≠0∧b.P k≠p+1 then none else some (b.setP k (p+1))
def Bnd.segment(b:Bnd)(k:Nat)(s:Int×Int):Option Bnd:=if ¬(b.S1 k=0∧b.S2 k=0)∧ ¬(b.S1 k=s.1+1∧b.S2 k=s.2+1) then none else some (b.setS k (s.1+1) (s.2+1))
def Bp(b:Bnd)(o:Option Bnd):R:= .tup [.agg (o.getD b).rs,.c (.d (.bool o.isSome))]
theorem BF(b:Bnd)(k:Nat)(hk:k<26)(p:Int)(hp: -1≤p∧p<1000000):
  CallsF Tryz.prog 313 [.agg b.ds,.c (.int .u8 ((65+k:Nat):Int)),.c (.int .i64 p)] (Bp b (b.point k p)):=by
 have e1:(((65+k:Nat):Int) - 65)%256=(k:Int):=by omega
 have g:=Bnd.get_p b hk;have s1:=Bnd.set_p b hk (p+1);have hb:b.point k p=if b.P k≠0∧b.P k≠p+1 then none else some (b.setP k (p+1)):=rfl;rw[hb];generalize b.P k=v at*;generalize b.setP k (p+1)=b' at*;unfold Bp;refine Ak (T:=tb) Ah mixed Tryz.func313 rfl (by decide) (Af rfl) rfl ?_;unfold St.init
 simp -implicitDefEqProofs[jJ,-natCast_add,-natCast_mul,-natCast_emod,-natCast_ediv,-natCast_pow,-List.map_set,e1,g,-List.reduceReplicate];by_cases h1:v=0
 ·simp -implicitDefEqProofs[jJ,-natCast_add,-natCast_mul,-natCast_emod,-natCast_ediv,-natCast_pow,-List.map_set,h1,g,s1,-List.reduceReplicate];omega
 ·by_cases h2:v=p+1
  ·simp -implicitDefEqProofs[jJ,-natCast_add,-natCast_mul,-natCast_emod,-natCast_ediv,-natCast_pow,-List.map_set,h1,h2,g,s1,-List.reduceReplicate];omega
  ·simp -implicitDefEqProofs[jJ,-natCast_add,-natCast_mul,-natCast_emod,-natCast_ediv,-natCast_pow,-List.map_set,h1,h2,g,s1,-List.reduceReplicate];omega
theorem Si(b:Bnd)(k:Nat)(hk:k<26)(p q:Int)(hp: -1≤p∧p<1000000)(hq: -1≤q∧q<1000000):
  CallsF Tryz.prog 347 [.agg b.ds,.c (.int .u8 ((97+k:Nat):Int)),.agg [.int .i64 p,.int .i64 q]] (Bp b (b.segment k (p,q))):=by
 have e1:(((97+k:Nat):Int) - 97)%256=(k:Int):=by omega
 have g:=Bnd.get_s b hk;have s1:=Bnd.set_s b hk (p+1) (q+1);have hb:b.segment k (p,q)=if ¬(b.S1 k=0∧b.S2 k=0)∧ ¬(b.S1 k=p+1∧b.S2 k=q+1) then none else some (b.setS k (p+1) (q+1)):=rfl;rw[hb];generalize b.S1 k=v1 at*;generalize b.S2 k=v2 at*;generalize b.setS k (p+1) (q+1)=b' at*;unfold Bp;refine Ak (T:=tb) Ah mixed Tryz.func347 rfl (by decide) (Af rfl) rfl ?_;unfold St.init
 simp -implicitDefEqProofs[jJ,-natCast_add,-natCast_mul,-natCast_emod,-natCast_ediv,-natCast_pow,-List.map_set,e1,g,-List.reduceReplicate];refine⟨by omega,by omega,hk,?_⟩
 refine At (Ad [0,1,3,0,15,31,63,127,255,63,1023,2047]) [.any [] [] (Ap [[9],[21],[22],[]]),.one,.one,.any [] [] (Ap [[9,26],[27,26],[28,26],[8,26]]),.one,.one] (by rfl) ?_
 simp -implicitDefEqProofs[jJ,-natCast_add,-natCast_mul,-natCast_emod,-natCast_ediv,-natCast_pow,-List.map_set,e1,g,-List.reduceReplicate];have fin:k≤25:=by omega
 have fin2:26+k*2≤76:=by omega
 rcases Classical.propComplete (v1=0)with a1|a1<;>rcases Classical.propComplete (v2=0)with a2|a2<;>rcases Classical.propComplete (v1=p+1)with b1|b1<;>rcases Classical.propComplete (v2=q+1)with b2|b2<;>
  simp -implicitDefEqProofs[jJ,-natCast_add,-natCast_mul,-natCast_emod,-natCast_ediv,-natCast_pow,-List.map_set,a1,a2,b1,b2,g,s1,fin2,-List.reduceReplicate]
theorem G7(c:Nat):CallsF Tryz.prog 317 [.c (.int .u8 (c:Int))] (.u (.c (.d (.bool (decide (97≤c)))))):=by
 refine Ak (T:=tb) Ah mixed Tryz.func317 rfl (by decide) (Af rfl) rfl ?_;unfold St.init
 simp -implicitDefEqProofs[jJ,-natCast_add,-natCast_mul,-natCast_emod,-natCast_ediv,-natCast_pow,-List.map_set]
@[simp]theorem bs_size(l:List UInt8):(bs l).size=l.length:=by simp[bs,ByteArray.size]
theorem Wr(l:List UInt8)(i:Nat):(bs l)[i]? =l[i]? :=by
 by_cases h:i<l.length
 ·rw[getElem?_pos (bs l) i (by simpa using h),Am h]
  congr 1
 ·rw[getElem?_neg (bs l) i (by simpa using h),By (by omega)]
@[simp]theorem bs_getE(l:List UInt8)(i:Nat)(h:i<(bs l).size):(bs l)[i]=l[i]'(by simpa using h):=rfl
theorem OW(l:List UInt8): ∀(n i:Nat) (r:List UInt8),n=l.length - i→i≤l.length→ByteArray.toList.loop (bs l) i r=r.reverse++l.drop i
 |0,i,r,h,hi=>by
  unfold ByteArray.toList.loop;rw[if_neg (by simp;omega),Cg (by omega),List.append_nil]
 |n+1,i,r,h,hi=>by
  have hlt:i<l.length:=by omega
  unfold ByteArray.toList.loop;rw[if_pos (by simpa using hlt),OW l n (i+1) _ (by omega) (by omega)]
  have e:(bs l).get! i=l[i]:=by simp[ByteArray.get!,bs,hlt]
  rw[e,AX hlt]
  simp
@[simp]theorem Up(l:List UInt8):(bs l).toList=l:=by
 unfold ByteArray.toList;rw[OW l l.length 0 [] rfl (Nat.zero_le _)];simp
theorem MF(l:List UInt8)(n:Nat)(h:n≤l.length):(bs l).extract n (n+(l.length - n))=bs (l.drop n):=by
 unfold bs
 apply ByteArray.ext
 apply Array.ext'
 simp[ByteArray.extract,ByteArray.copySlice]
 exact AH (by simp)
def G5(c:UInt8):Prop:=(65≤c.toNat∧c.toNat<91)∨(97≤c.toNat∧c.toNat<123)
def Bnd.Ok(b:Bnd):Prop:= ∀x∈b.v,0≤x∧x<2000000
theorem Bnd.Ok.p{b:Bnd}(h:b.Ok){k:Nat}(hk:k<26):0≤b.P k∧b.P k<2000000:=by
 have h1:k<b.v.length:=by rw[b.h];omega
 refine h _ ?_;simp[Bnd.P,h1]
theorem Bnd.Ok.s{b:Bnd}(h:b.Ok){k:Nat}(hk:k<26):(0≤b.S1 k∧b.S1 k<2000000)∧(0≤b.S2 k∧b.S2 k<2000000):=by
 have h1:26+k*2<b.v.length:=by rw[b.h];omega
 have h2:26+k*2+1<b.v.length:=by rw[b.h];omega
 refine⟨h _ ?_,h _ ?_⟩
 ·simp[Bnd.S1,h1]
 ·simp[Bnd.S2,h2]
def DA(b:Bnd)(c:UInt8):List Int:=if 97≤c.toNat then [b.S1 (c.toNat - 97) - 1,b.S2 (c.toNat - 97) - 1] else [b.P (c.toNat - 65) - 1]
def BJ(b:Bnd)(l:List UInt8):List Int:=l.flatMap (DA b)
theorem Ol(b:Bnd)(hb:b.Ok)(l:List UInt8)(hl: ∀c∈l,G5 c)(hn:l.length≤1000):
  CallsF Tryz.prog 277 [.agg b.ds,.c (.str (bs l))] (.u (.c (.own 1 (BJ b l).length ((BJ b l).map i64)))):=by
 have hlen: ∀n,(BJ b (l.take n)).length≤2*n:=fun n=>by
  have: ∀l:List UInt8,(BJ b l).length≤2*l.length:=fun l=>by
   unfold BJ
   induction l with
   |nil=>simp
   |cons c r ih=>
    have:(DA b c).length≤2:=by unfold DA;split<;>simp
    rw[List.flatMap_cons,List.length_append,List.length_cons];omega
  exact Nat.le_trans (this _) (by rw[AP];omega)
 refine Ak (T:=tb) Ah mixed Tryz.func277 rfl (by decide) (Af rfl) rfl ?_;unfold St.init
 simp -implicitDefEqProofs[jJ,-natCast_add,-natCast_mul,-natCast_emod,-natCast_ediv,-natCast_pow,-List.reduceReplicate];refine CJ [(5,32),(5,41)] (fun i:Nat=>⟨[(11,vI .i64 i),(10,vI .i64 l.length),(5,vC (.sl 5 0 (BJ b (l.take i)).length)),(2,vC (.ptr 2 0)),(1,vC (.d (.str (bs l))))],[(5,.row 1 ((BJ b (l.take i)).map i64) true),(2,.box b.cs)]⟩)
  (fun i=>i≤l.length) (fun i=>l.length - i) 0 (by simp[BJ]) (by omega) ?_
 rintro i hi
 by_cases h:i<l.length
 ·have e:BJ b (l.take (i+1))=BJ b (l.take i)++DA b l[i]:=by
   rw[BX h];unfold BJ;rw[List.flatMap_append];simp
  have hm:=hlen i;have hc:=hl l[i] (AD h);have g0:(bs l)[i]? =some l[i]:=by rw[Wr,Am h]
  simp -implicitDefEqProofs[jJ,-natCast_add,-natCast_mul,-natCast_emod,-natCast_ediv,-natCast_pow,h,g0,-List.reduceReplicate]
  (first|refine Ab (G7 l[i].toNat) ?_|refine Aa (G7 l[i].toNat) ?_)
  by_cases h97:97≤l[i].toNat
  ·obtain⟨k,hk⟩: ∃k,l[i].toNat=97+k:=⟨l[i].toNat - 97,by omega⟩
   have hk26:k<26:=by unfold G5 at hc;omega
   have g1:=Bnd.get_s b hk26;have g2:=hb.s hk26;have e1:(((97+k:Nat):Int) - 97)%256=(k:Int):=by omega
   have e2:DA b l[i]=[b.S1 k - 1,b.S2 k - 1]:=by unfold DA;rw[if_pos h97,hk];simp
   simp -implicitDefEqProofs[jJ,-natCast_add,-natCast_mul,-natCast_emod,-natCast_ediv,-natCast_pow,hk,g1,e1,-List.reduceReplicate];exact⟨hk26,by omega,by omega,by omega,by omega,by omega,i+1,⟨⟨rfl,by rw[e,e2];simp⟩,by rw[e,e2];simp[i64]⟩,by omega,by omega⟩
  ·obtain⟨k,hk⟩: ∃k,l[i].toNat=65+k:=⟨l[i].toNat - 65,by unfold G5 at hc;omega⟩
   have hk26:k<26:=by unfold G5 at hc;omega
   have g1:=Bnd.get_p b hk26;have g2:=hb.p hk26;have e1:(((65+k:Nat):Int) - 65)%256=(k:Int):=by omega
   have e2:DA b l[i]=[b.P k - 1]:=by unfold DA;rw[if_neg h97,hk];simp
   have e3:(97≤65+k)=False:=by simp;omega
   simp -implicitDefEqProofs[jJ,-natCast_add,-natCast_mul,-natCast_emod,-natCast_ediv,-natCast_pow,e3,hk,g1,e1,-List.reduceReplicate];exact⟨hk26,by omega,by omega,by omega,i+1,⟨⟨rfl,by rw[e,e2];simp⟩,by rw[e,e2];simp[i64]⟩,by omega,by omega⟩
 ·have hi2:i=l.length:=by omega
  subst hi2;simp -implicitDefEqProofs[jJ,-natCast_add,-natCast_mul,-natCast_emod,-natCast_ediv,-natCast_pow,-List.reduceReplicate]
def CU(f:Fct):Bool:=decide (IM f 40=0)
theorem Kb(f:Fct)(hf:f.Mild):CallsF Tryz.prog 64 [.agg f.ds] (.u (.c (.d (.bool (CU f))))):=by
 refine Ak (T:=tb) Ah mixed Tryz.func64 rfl (by decide) (Af rfl) rfl ?_;unfold St.init
 have k:=Yg f hf 40;simp only[Fct.ds]at k ⊢;simp -implicitDefEqProofs[jJ,-natCast_add,-natCast_mul]
 (first|refine Ab k ?_|refine Aa k ?_)
 simp -implicitDefEqProofs[jJ,-natCast_add,-natCast_mul,CU]
theorem IC(kind a b c d:Int)(neg:Bool)(abs den:List Nat):CallsF Tryz.prog 68 [.agg [.int .i64 kind,intsD [a,b,c,d],.bool neg,Ac abs,Ac den]] (.u (.c (.own 2 2 [.int .i64 (lo a b),.int .i64 (hi a b),.int .i64 (lo c d),.int .i64 (hi c d)]))):=
 Qj ⟨kind,[a,b,c,d],neg,abs,den⟩ (by simp)
theorem N3(kind a b c d e f g h:Int)(neg:Bool)(abs den:List Nat):CallsF Tryz.prog 68 [.agg [.int .i64 kind,intsD [a,b,c,d,e,f,g,h],.bool neg,Ac abs,Ac den]] (.u (.c (.own 2 4 [.int .i64 (lo a b),.int .i64 (hi a b),.int .i64 (lo c d),.int .i64 (hi c d),.int .i64 (lo e f),.int .i64 (hi e f),.int .i64 (lo g h),.int .i64 (hi g h)]))):=
 Qj ⟨kind,[a,b,c,d,e,f,g,h],neg,abs,den⟩ (by simp)
def Fct.res(f:Fct):R:= .u (.agg [.d (.int .i64 f.kind),.d (intsD f.args),.d (.bool f.neg),.d (Ac f.abs),.d (Ac f.den)])
theorem IF(kind a b c d:Int)(neg:Bool)(abs den:List Nat):CallsF Tryz.prog 287 [.c (.int .i64 kind),.agg [.bool neg,Ac abs,Ac den],.c (.slice 2 [.int .i64 a,.int .i64 b,.int .i64 c,.int .i64 d])]
  (.u (.agg [.d (.int .i64 kind),.d (intsD [a,b,c,d]),.d (.bool neg),.d (Ac abs),.d (Ac den)])):=
 TW kind neg abs den [(a,b),(c,d)] (by simp)
theorem RY(kind a b c d e f g h:Int)(neg:Bool)(abs den:List Nat):CallsF Tryz.prog 287 [.c (.int .i64 kind),.agg [.bool neg,Ac abs,Ac den],.c (.slice 4 [.int .i64 a,.int .i64 b,.int .i64 c,.int .i64 d,.int .i64 e,.int .i64 f,.int .i64 g,.int .i64 h])]
  (.u (.agg [.d (.int .i64 kind),.d (intsD [a,b,c,d,e,f,g,h]),.d (.bool neg),.d (Ac abs),.d (Ac den)])):=
 TW kind neg abs den [(a,b),(c,d),(e,f),(g,h)] (by simp)
def Gt(kind:Int)(p q:Int×Int):Fct:=if BY q p<0 then ⟨kind,[q.1,q.2,p.1,p.2],false,[],[]⟩ else ⟨kind,[p.1,p.2,q.1,q.2],false,[],[]⟩
theorem Lg(kind a b c d:Int)(neg:Bool)(abs den:List Nat):CallsF Tryz.prog 209 [.agg [.int .i64 kind,intsD [a,b,c,d],.bool neg,Ac abs,Ac den]] (Gt kind (Ar a b) (Ar c d)).res:=by
 refine Ak (T:=tb) Ah mixed Tryz.func209 rfl (by decide) (Af rfl) rfl ?_;unfold St.init
 have k1:=IC kind a b c d neg abs den;have k2:=Hn (lo c d) (hi c d) (lo a b) (hi a b);have k3:=IF kind (lo c d) (hi c d) (lo a b) (hi a b) false [] [];have k4:=IF kind (lo a b) (hi a b) (lo c d) (hi c d) false [] [];unfold Gt Ar;simp only;generalize intsD [a,b,c,d]=l at*;generalize lo c d=x at*;generalize hi c d=y at*;generalize lo a b=z at*;generalize hi a b=t at*;simp -implicitDefEqProofs[jJ,-natCast_add,-natCast_mul]
 (first|refine Ab k1 ?_|refine Aa k1 ?_)
 simp -implicitDefEqProofs[jJ,-natCast_add,-natCast_mul];refine At (Ad [0,1,3,0,8,24,63,127]) [.any [] [] (Ap [[3],[6],[7],[3],[9],[10]]),.one,.one] (by rfl) ?_
 simp -implicitDefEqProofs[jJ,-natCast_add,-natCast_mul]
 (first|refine Ab k2 ?_|refine Aa k2 ?_)
 by_cases h:BY (x,y) (z,t)<0
 ·simp -implicitDefEqProofs[jJ,-natCast_add,-natCast_mul,h];refine At (Ad [0,0,0,4,12,0,32,96,253,509,1023,2047]) [.any [] [] [⟨0,[3],[],[],[]⟩,⟨0,[3],[5],[],[]⟩,⟨0,[3],[],[],[]⟩,⟨0,[16],[],[],[]⟩,⟨0,[17],[],[],[]⟩,⟨0,[3],[],[],[]⟩,⟨0,[19],[],[],[]⟩,⟨0,[20],[],[],[]⟩,⟨0,[14],[],[],[]⟩,⟨2,[18,22],[],[],[5]⟩],.one,.one] (by rfl) ?_
  simp -implicitDefEqProofs[jJ,-natCast_add,-natCast_mul]
  (first|refine Ab k3 ?_|refine Aa k3 ?_)
  simp -implicitDefEqProofs[jJ,-natCast_add,-natCast_mul,Fct.res]
 ·simp -implicitDefEqProofs[jJ,-natCast_add,-natCast_mul,h]
  (first|refine Ab k4 ?_|refine Aa k4 ?_)
  simp -implicitDefEqProofs[jJ,-natCast_add,-natCast_mul,Fct.res]
end Go.Va
namespace Go.Va
def Ha(a b:Fct):Int:=cmpZ (toZ a.neg (val a.abs)*val b.den) (toZ b.neg (val b.abs)*val a.den)
def cmpK(a b:Fct):Int:=CG [cmpZ a.kind b.kind,A6 a.args b.args]
def BC(a b:Fct):Int:=if cmpK a b≠0∨a.kind≠9 then cmpK a b else Ha a b
def Fct.Num(f:Fct):Prop:=f.kind=9→val f.den≠0
theorem EQ(a b:Int):(a<b∧cmpZ a b= -1)∨(b<a∧cmpZ a b=1)∨(a=b∧cmpZ a b=0):=by
 unfold cmpZ;split
 ·left;exact⟨‹_›,rfl⟩
 ·split
  ·right;left;exact⟨‹_›,rfl⟩
  ·right;right;exact⟨by omega,rfl⟩
structure IsCmp {α:Type} (P:α→Prop) (c:α→α→Int):Prop where
 rng: ∀x y,P x→P y→ -1≤c x y∧c x y≤1
 anti: ∀x y,P x→P y→c y x= -c x y
 tr: ∀x y z,P x→P y→P z→c x y≤0→c y z≤0→c x z≤0∧(c x z=0→c x y=0∧c y z=0)
theorem isCmp_Z:IsCmp (fun _=>True) cmpZ where
 rng x y _ _:=by rcases EQ x y with⟨_,h⟩|⟨_,h⟩|⟨_,h⟩<;>omega
 anti x y _ _:=by rcases EQ x y with⟨_,h⟩|⟨_,h⟩|⟨_,h⟩<;>rcases EQ y x with⟨_,h'⟩|⟨_,h'⟩|⟨_,h'⟩<;>omega
 tr x y z _ _ _:=by
  rcases EQ x y with⟨_,h⟩|⟨_,h⟩|⟨_,h⟩<;>rcases EQ y z with⟨_,h'⟩|⟨_,h'⟩|⟨_,h'⟩<;>rcases EQ x z with⟨_,h''⟩|⟨_,h''⟩|⟨_,h''⟩<;>omega
theorem IsCmp.lex{α:Type}{P:α→Prop}{c d:α→α→Int}(hc:IsCmp P c)
  (rng: ∀x y,P x→P y→c x y=0→ -1≤d x y∧d x y≤1) (anti: ∀x y,P x→P y→c x y=0→d y x= -d x y)
  (tr: ∀x y z,P x→P y→P z→c x y=0→c y z=0→d x y≤0→d y z≤0→d x z≤0∧(d x z=0→d x y=0∧d y z=0)):
  IsCmp P fun x y=>if c x y≠0 then c x y else d x y where
 rng x y hx hy:=by
  by_cases h:c x y=0
  ·simp only[h,ne_eq,not_true_eq_false,if_false];exact rng x y hx hy h
  ·simp only[h,ne_eq,not_false_eq_true,if_true];exact hc.rng x y hx hy
 anti x y hx hy:=by
  have h0:=hc.anti x y hx hy;by_cases h:c x y=0
  ·have h':c y x=0:=by omega
   simp only[h,h',ne_eq,not_true_eq_false,if_false];exact anti x y hx hy h
  ·have h': ¬c y x=0:=by omega
   simp only[h,h',ne_eq,not_false_eq_true,if_true];exact h0
 tr x y z hx hy hz:=by
  have t:=hc.tr x y z hx hy hz;have t2:=hc.tr z y x hz hy hx;have a1:=hc.anti x y hx hy;have a2:=hc.anti y z hy hz;have a3:=hc.anti x z hx hz;by_cases h1:c x y=0<;>by_cases h2:c y z=0<;>by_cases h3:c x z=0<;>simp only[h1,h2,h3,ne_eq,not_true_eq_false,not_false_eq_true,if_false,if_true]<;>intro k1 k2
  ·exact tr x y z hx hy hz h1 h2 k1 k2
  all_goals first
   |(have:=t (by omega) (by omega);exact⟨by omega,fun h=>by first|exact h.elim|omega⟩)
   |exact⟨by omega,fun h=>by first|exact h.elim|omega⟩
theorem isCmp_lexI:IsCmp (fun _=>True) A6 where
 rng:=by
  intro x
  induction x with
  |nil=>intro y _ _;cases y<;>simp[A6]
  |cons a x ih=>
   intro y _ _;cases y with
   |nil=>simp[A6]
   |cons b y=>
    have h:=isCmp_Z.rng a b trivial trivial;have h2:=ih y trivial trivial;unfold A6;split<;>omega
 anti:=by
  intro x
  induction x with
  |nil=>intro y _ _;cases y<;>simp[A6]
  |cons a x ih=>
   intro y _ _;cases y with
   |nil=>simp[A6]
   |cons b y=>
    have h:=isCmp_Z.anti a b trivial trivial;have h2:=ih y trivial trivial;unfold A6;split<;>split<;>omega
 tr:=by
  intro x
  induction x with
  |nil=>intro y z _ _ _;cases y<;>cases z<;>simp[A6]
  |cons a x ih=>
   intro y z _ _ _;cases y with
   |nil=>cases z<;>simp[A6]
   |cons b y=>
    cases z with
    |nil=>simp[A6]
    |cons c z=>
     have h2:=ih y z trivial trivial trivial;have t:=isCmp_Z.tr a b c trivial trivial trivial;have t2:=isCmp_Z.tr c b a trivial trivial trivial;have a1:=isCmp_Z.anti a b trivial trivial;have a2:=isCmp_Z.anti b c trivial trivial;have a3:=isCmp_Z.anti a c trivial trivial;simp only[A6];by_cases h1:cmpZ a b=0<;>by_cases h4:cmpZ b c=0<;>by_cases h3:cmpZ a c=0<;>simp only[h1,h4,h3,if_false,if_true]<;>intro k1 k2
     ·exact h2 k1 k2
     all_goals first
      |(have:=t (by omega) (by omega);exact⟨by omega,fun h=>by first|exact h.elim|omega⟩)
      |exact⟨by omega,fun h=>by first|exact h.elim|omega⟩
theorem QH: ∀(x y:List Int),A6 x y=0↔x=y
 |[],[]=>by simp[A6]
 |[],_::_=>by simp[A6]
 |_::_,[]=>by simp[A6]
 |a::x,b::y=>by
  have:=QH x y
  have hz:=HK a b;unfold A6;split
  ·rename_i h;rw[this];simp[hz.1 h]
  ·rename_i h
   constructor
   ·intro h2;exact absurd h2 h
   ·intro h2;simp at h2;exact absurd (hz.2 h2.1) h
theorem Od(a b:Fct):cmpK a b=if cmpZ a.kind b.kind≠0 then cmpZ a.kind b.kind else A6 a.args b.args:=by
 unfold cmpK CG CG CG;by_cases h:cmpZ a.kind b.kind=0
 ·by_cases h2:A6 a.args b.args=0<;>simp[h,h2]
 ·simp[h]
theorem isCmp_K:IsCmp (fun _:Fct=>True) cmpK:=by
 have hz:IsCmp (fun _:Fct=>True) fun a b=>cmpZ a.kind b.kind:=⟨fun x y _ _=>isCmp_Z.rng _ _ trivial trivial,fun x y _ _=>isCmp_Z.anti _ _ trivial trivial,fun x y z _ _ _=>isCmp_Z.tr _ _ _ trivial trivial trivial⟩
 have h:=hz.lex (d:=fun a b=>A6 a.args b.args) (fun x y _ _ _=>isCmp_lexI.rng _ _ trivial trivial) (fun x y _ _ _=>isCmp_lexI.anti _ _ trivial trivial) (fun x y z _ _ _ _ _=>isCmp_lexI.tr _ _ _ trivial trivial trivial)
 have e:cmpK=fun a b=>if cmpZ a.kind b.kind≠0 then cmpZ a.kind b.kind else A6 a.args b.args:=by funext a b;exact Od a b
 rw[e];exact h
theorem cmpK_zero{a b:Fct}:cmpK a b=0↔a.kind=b.kind∧a.args=b.args:=by
 rw[Od]
 have h1:=HK a.kind b.kind;have h2:=QH a.args b.args;by_cases h:cmpZ a.kind b.kind=0
 ·rw[if_neg (by simp[h]),h2];simp[h1.1 h]
 ·rw[if_pos h]
  constructor
  ·intro h3;exact absurd h3 h
  ·intro h3;exact absurd (h1.2 h3.1) h
theorem PJ(a b:Fct):BC a b=if cmpK a b≠0 then cmpK a b else if a.kind=9 then Ha a b else 0:=by
 unfold BC;by_cases h:cmpK a b=0<;>by_cases h2:a.kind=9<;>simp[h,h2]
theorem jaH{a b d:Int}(hd:0<d)(h:a*d≤b*d):a≤b:=Int.le_of_mul_le_mul_right h hd
theorem X5{x1 x2 x3 d1 d2 d3:Int}(h1:0<d1)(h2:0<d2)(h3:0<d3)(k1:x1*d2≤x2*d1)(k2:x2*d3≤x3*d2):x1*d3≤x3*d1∧(x1*d3=x3*d1→x1*d2=x2*d1∧x2*d3=x3*d2):=by
 have e1:x1*d2*d3≤x2*d1*d3:=Int.mul_le_mul_of_nonneg_right k1 (by omega)
 have e2:x2*d3*d1≤x3*d2*d1:=Int.mul_le_mul_of_nonneg_right k2 (by omega)
 have r1:x2*d1*d3=x2*d3*d1:=by rw[Int.mul_assoc,Int.mul_comm d1,←Int.mul_assoc]
 have r2:x1*d2*d3=x1*d3*d2:=by rw[Int.mul_assoc,Int.mul_comm d2,←Int.mul_assoc]
 have r3:x3*d2*d1=x3*d1*d2:=by rw[Int.mul_assoc,Int.mul_comm d2,←Int.mul_assoc]
 refine⟨jaH h2 (by omega),fun h=> ?_⟩
 rw[←h]at r3
 refine⟨Int.eq_of_mul_eq_mul_right (a:=d3) (by omega) (by omega),Int.eq_of_mul_eq_mul_right (a:=d1) (by omega) (by omega)⟩
theorem isCmp_F:IsCmp Fct.Num BC:=by
 have hk:IsCmp Fct.Num cmpK:=⟨fun x y _ _=>isCmp_K.rng _ _ trivial trivial,fun x y _ _=>isCmp_K.anti _ _ trivial trivial,fun x y z _ _ _=>isCmp_K.tr _ _ _ trivial trivial trivial⟩
 have h:=hk.lex (d:=fun a b=>if a.kind=9 then Ha a b else 0) (fun x y _ _ _=>by
   by_cases h:x.kind=9
   ·simp only[h,if_true];exact isCmp_Z.rng _ _ trivial trivial
   ·simp[h]) (fun x y hx hy h0=>by
   have e:=(cmpK_zero.1 h0).1;by_cases h:x.kind=9
   ·have h':y.kind=9:=by omega
    simp only[h,h',if_true];exact isCmp_Z.anti _ _ trivial trivial
   ·have h': ¬y.kind=9:=by omega
    simp[h,h']) (fun x y z hx hy hz h0 h1=>by
   have e:=(cmpK_zero.1 h0).1;have e':=(cmpK_zero.1 h1).1;by_cases h:x.kind=9
   ·have h':y.kind=9:=by omega
    have h'':z.kind=9:=by omega
    have px:=hx h;have py:=hy h';have pz:=hz h'';simp only[h,h',if_true,Ha];rcases EQ (toZ x.neg (val x.abs)*val y.den) (toZ y.neg (val y.abs)*val x.den)with⟨q1,q2⟩|⟨q1,q2⟩|⟨q1,q2⟩<;>
    rcases EQ (toZ y.neg (val y.abs)*val z.den) (toZ z.neg (val z.abs)*val y.den)with⟨r1,r2⟩|⟨r1,r2⟩|⟨r1,r2⟩<;>intro k1 k2<;>try omega
    all_goals
     have c:=X5 (x1:=toZ x.neg (val x.abs)) (x2:=toZ y.neg (val y.abs)) (x3:=toZ z.neg (val z.abs)) (d1:=val x.den) (d2:=val y.den) (d3:=val z.den) (by omega) (by omega) (by omega) (by omega) (by omega)
     rcases EQ (toZ x.neg (val x.abs)*val z.den) (toZ z.neg (val z.abs)*val x.den)with⟨s1,s2⟩|⟨s1,s2⟩|⟨s1,s2⟩<;>omega
   ·have h': ¬y.kind=9:=by omega
    simp[h,h'])
 have e:BC=fun a b=>if cmpK a b≠0 then cmpK a b else if a.kind=9 then Ha a b else 0:=by funext a b;exact PJ a b
 rw[e];exact h
theorem IsCmp.self{α:Type}{P:α→Prop}{c:α→α→Int}(h:IsCmp P c){x:α}(hx:P x):c x x=0:=by
 have:=h.anti x x hx hx
 omega
end Go.Va
