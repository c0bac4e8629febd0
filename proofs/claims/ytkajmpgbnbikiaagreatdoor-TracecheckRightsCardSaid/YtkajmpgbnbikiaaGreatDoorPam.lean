/- a part of the proof -/
import Derived.Test.YtkajmpgbnbikiaaGreatDoorPal
set_option linter.all false
set_option maxHeartbeats 4000000
set_option maxRecDepth 10000
namespace Go.Va
open Int (natCast_add natCast_mul natCast_emod natCast_ediv natCast_pow)
open Go.Proofs
theorem jnB(a b:List Nat)(ha:Ok a)(hl:a.length≤274877906944)(hb:Ok b)(hm:b.length≤274877906944):CallsF Tryz.prog 283 [.c (Ag a),.c (Ag b)] (.u (.c (.d (Ag (limbs (val a*val b)))))):=by
 refine Aj (T:=tb) Ai mixed Tryz.func283 rfl (by decide) (Ah rfl) rfl ?_;unfold St.init
 simp -implicitDefEqProofs[jJ,-natCast_add,-natCast_mul,-natCast_emod,-natCast_ediv,-natCast_pow,-List.map_set];refine .inl ⟨_,EQ a ha (by omega),?_⟩
 simp -implicitDefEqProofs[jJ,-natCast_add,-natCast_mul,-natCast_emod,-natCast_ediv,-natCast_pow,-List.map_set];refine .inl ⟨_,EQ b hb (by omega),?_⟩
 have hla:=Du a ha;have hlb:=Du b hb;have oa:=AC (val a);have ob:=AC (val b);have va:=AB (val a);have vb:=AB (val b);generalize limbs (val a)=x at*;generalize limbs (val b)=y at*;by_cases hx:x=[]
 ·subst hx;simp;rw[←va,WM,Nat.zero_mul];rfl
 by_cases hy:y=[]
 ·subst hy;simp[hx];rw[←vb,WM,Nat.mul_zero];rfl
 have hx0:x.length≠0:=fun h=>hx (jzv.1 h)
 have hy0:y.length≠0:=fun h=>hy (jzv.1 h)
 simp -implicitDefEqProofs[jJ,-natCast_add,-natCast_mul,-natCast_emod,-natCast_ediv,-natCast_pow,-List.map_set,hx,hy];refine⟨by omega,by omega,?_⟩
 refine AA (fun p:Nat×List Nat=>⟨[(0,vC (.d (Ag x))),(1,vC (.d (Ag y))),(29,vC (.d (Ag x))),(30,vI .i64 x.length),(31,vI .i64 p.1),(5,vC (.sl 28 0 p.2.length))],[(28,.row 1 (p.2.map u16) true)]⟩)
  (fun p=>p.1≤x.length∧Ok p.2∧p.2.length=x.length+y.length∧val p.2=val (x.take p.1)*val y∧ ∀j,p.1+y.length≤j→p.2.getD j 0=0) (fun p=>x.length - p.1) (0,List.replicate (x.length+y.length) 0)
  (by simp[jgi]) ⟨Nat.zero_le _,fun z hz=>by rw[List.eq_of_mem_replicate hz];omega,by simp,by simp[jhK,val],fun j _=>by simp[AW,List.getElem?_replicate];split<;>rfl⟩ ?_
 rintro⟨i,o0⟩ ⟨h1,h2,h3,h4,h5⟩
 by_cases hi:i<x.length
 ·have hxi:=oa.get (An hi);simp only at h1 h2 h3 h4 h5;simp -implicitDefEqProofs[jJ,-natCast_add,-natCast_mul,-natCast_emod,-natCast_ediv,-natCast_pow,-List.map_set,hi,u16];refine AA (fun q:Nat×Nat×List Nat=>⟨[(0,vC (.d (Ag x))),(1,vC (.d (Ag y))),(29,vC (.d (Ag x))),(30,vI .i64 x.length),(31,vI .i64 i),(5,vC (.sl 28 0 q.2.2.length)),
    (6,vI .i64 i),(7,vI .u16 x[i]),(8,vI .u32 q.2.1),(36,vC (.d (Ag y))),(37,vI .i64 y.length),(38,vI .i64 q.1)],[(28,.row 1 (q.2.2.map u16) true)]⟩)
   (fun q=>q.1≤y.length∧q.2.1<65536∧Ok q.2.2∧q.2.2.length=x.length+y.length∧val q.2.2+65536^(i+q.1)*q.2.1=val o0+65536^i*(x[i]*val (y.take q.1))∧ ∀j,i+y.length≤j→q.2.2.getD j 0=0)
   (fun q=>y.length - q.1) (0,0,o0) (by simp) ⟨Nat.zero_le _,by simp,h2,h3,by simp[val],h5⟩ ?_
  rintro⟨k,c,o⟩ ⟨g1,g2,g3,g4,g5,g6⟩
  simp only at g1 g2 g3 g4 g5 g6;by_cases hk:k<y.length
  ·have hyk:=ob.get (An hk);have hik:i+k<o.length:=by omega
   have hok:=g3.get (An hik);simp -implicitDefEqProofs[jJ,-natCast_add,-natCast_mul,-natCast_emod,-natCast_ediv,-natCast_pow,-List.map_set,hk,hik,u16];have hxy:x[i]*y[k]≤65535*65535:=Nat.mul_le_mul (by omega) (by omega)
   have hT:c+(o[i+k]+x[i]*y[k])<4294967296:=by omega
   rw[Cp hT]
   have hst:=Kz (a:=o) (i:=i+k) (x:=(c+(o[i+k]+x[i]*y[k]))%65536) hik;rw[AW,An hik,Option.getD_some]at hst;have hms:=jdH g5 hst;refine⟨by omega,by omega,by omega,k+1,(c+(o[i+k]+x[i]*y[k]))/65536,o.set (i+k) ((c+(o[i+k]+x[i]*y[k]))%65536),⟨⟨by simp,rfl,rfl⟩,rfl⟩,
    ⟨hk,by omega,g3.set _ (by omega),by simpa using g4,?_,fun j hj=> ?_⟩,by omega⟩
   ·have e:65536^(i+(k+1))=65536^(i+k)*65536:=by rw[←Nat.add_assoc,Nat.pow_succ]
    rw[e,hms,Jr hk,AW,An hk,Option.getD_some,Nat.pow_add]
    simp only[Nat.mul_add,Nat.add_assoc,Nat.mul_left_comm,Nat.mul_assoc]
   ·have:=g6 j hj
    rw[AW]at this
    rw[List.getElem?_set,if_neg (by omega)]
    exact this
  ·have hs:i+y.length<o.length:=by omega
   have hk':k=y.length:=by omega
   subst hk';simp -implicitDefEqProofs[jJ,-natCast_add,-natCast_mul,-natCast_emod,-natCast_ediv,-natCast_pow,-List.map_set,hs,u16];have hst:=Kz (a:=o) (i:=i+y.length) (x:=c) hs;have h0:=g6 (i+y.length) (At _);rw[h0]at hst;refine⟨by omega,by omega,by omega,i+1,o.set (i+y.length) c,⟨⟨rfl,by simp⟩,by rw[Cp g2]⟩,⟨hi,g3.set _ g2,by simpa using g4,?_,fun j hj=> ?_⟩,by omega⟩
   ·rw[Cq]at g5
    rw[Jr hi,AW,An hi,Option.getD_some,Nat.add_mul,Nat.mul_assoc,←h4,←g5]
    omega
   ·have:=g6 j (by omega)
    rw[AW]at this
    rw[List.getElem?_set]
    split
    ·omega
    ·exact this
 ·simp only at h1 h2 h3 h4;simp -implicitDefEqProofs[jJ,-natCast_add,-natCast_mul,-natCast_emod,-natCast_ediv,-natCast_pow,-List.map_set,hi];refine .inl ⟨_,EQ o0 h2 (by omega),?_⟩
  simp -implicitDefEqProofs[jJ,-natCast_add,-natCast_mul,-natCast_emod,-natCast_ediv,-natCast_pow,-List.map_set];rw[h4,Bv (by omega),va,vb]
def sg(neg:Bool)(n:Nat):Bool:=neg&&decide (0<n)
def BR(neg:Bool)(n:Nat):List RC:=[.d (.bool (sg neg n)),.d (Ag (limbs n))]
def Au(neg:Bool)(n:Nat):Int:=if neg then -(n:Int) else n
def AL(neg:Bool)(n:Nat):Int:=if n=0 then 0 else if neg then -1 else 1
theorem limbs_pos_len{n:Nat}:0<(limbs n).length↔0<n:=by
 rw[List.length_pos_iff,ne_eq,limbs_nil];omega
theorem jiI(neg:Bool)(a:List Nat)(ha:Ok a)(hl:a.length≤1099511627776):CallsF Tryz.prog 344 [.c (.bool neg),.c (Ag a)] (.u (.agg (BR neg (val a)))):=by
 refine Aj (T:=tb) Ai mixed Tryz.func344 rfl (by decide) (Ah rfl) rfl ?_;unfold St.init
 simp -implicitDefEqProofs[jJ,-natCast_add,-natCast_mul,-natCast_emod,-natCast_ediv,-natCast_pow];refine .inl ⟨_,F6 a ha hl,?_⟩;have hp:= @limbs_pos_len (val a);cases neg<;>simp -implicitDefEqProofs[jJ,-natCast_add,-natCast_mul,-natCast_emod,-natCast_ediv,-natCast_pow,BR,sg,hp]
theorem Vx(neg:Bool)(n:Nat):CallsF Tryz.prog 280 [.c (.bool neg),.c (Ag (limbs n))] (.u (.agg (BR neg n))):=by
 refine Aj (T:=tb) Ai mixed Tryz.func280 rfl (by decide) (Ah rfl) rfl ?_;unfold St.init
 have hp:= @limbs_pos_len n
 cases neg<;>simp -implicitDefEqProofs[jJ,-natCast_add,-natCast_mul,-natCast_emod,-natCast_ediv,-natCast_pow,BR,sg,hp]
theorem jn3(neg:Bool)(a:List Nat)(ha:Ok a)(hl:a.length≤1099511627776):CallsF Tryz.prog 310 [.agg [.bool neg,Ag a]] (.u (.agg (BR neg (val a)))):=by
 refine Aj (T:=tb) Ai mixed Tryz.func310 rfl (by decide) (Ah rfl) rfl ?_;unfold St.init
 simp -implicitDefEqProofs[jJ,-natCast_add,-natCast_mul,-natCast_emod,-natCast_ediv,-natCast_pow];refine .inl ⟨_,jiI neg a ha hl,?_⟩;simp -implicitDefEqProofs[jJ,-natCast_add,-natCast_mul,-natCast_emod,-natCast_ediv,-natCast_pow,BR]
theorem Iq(na nb:Bool)(a b:List Nat)(ha:Ok a)(hl:a.length≤274877906944)(hb:Ok b)(hm:b.length≤274877906944):
  CallsF Tryz.prog 205 [.agg [.bool na,Ag a],.agg [.bool nb,Ag b]] (.u (.agg (BR (!decide (na=nb)) (val a*val b)))):=by
 refine Aj (T:=tb) Ai mixed Tryz.func205 rfl (by decide) (Ah rfl) rfl ?_;unfold St.init
 simp -implicitDefEqProofs[jJ,-natCast_add,-natCast_mul,-natCast_emod,-natCast_ediv,-natCast_pow];refine Ar (Ac [0,1,0,4,15,0,32,0,128,480,1023,2047]) [.any [] [] (Ak [[2],[5],[3],[7],[6,8],[2],[10],[3],[12],[11,13]]),.one,.one] (by rfl) ?_
 simp -implicitDefEqProofs[jJ,-natCast_add,-natCast_mul,-natCast_emod,-natCast_ediv,-natCast_pow];refine⟨_,jnB a b ha hl hb hm,?_⟩;simp -implicitDefEqProofs[jJ,-natCast_add,-natCast_mul,-natCast_emod,-natCast_ediv,-natCast_pow];refine .inl ⟨_,Vx _ _,?_⟩;simp -implicitDefEqProofs[jJ,-natCast_add,-natCast_mul,-natCast_emod,-natCast_ediv,-natCast_pow,BR]
theorem N7(n:Nat)(hn:n<9223372036854775808):CallsF Tryz.prog 201 [.c (.int .i64 n)] (.u (.agg (BR false n))):=by
 refine Aj (T:=tb) Ai mixed Tryz.func201 rfl (by decide) (Ah rfl) rfl ?_;unfold St.init
 simp -implicitDefEqProofs[jJ,-natCast_add,-natCast_mul,-natCast_emod,-natCast_ediv,-natCast_pow];rw[Cp (by omega)]
 refine .inl ⟨_,K3 n (by omega),?_⟩
 simp -implicitDefEqProofs[jJ,-natCast_add,-natCast_mul,-natCast_emod,-natCast_ediv,-natCast_pow];refine .inl ⟨_,Vx _ _,?_⟩;simp -implicitDefEqProofs[jJ,-natCast_add,-natCast_mul,-natCast_emod,-natCast_ediv,-natCast_pow,BR]
theorem jm4(neg:Bool)(a:List Nat)(hl:a.length≤1099511627776):CallsF Tryz.prog 102 [.agg [.bool neg,Ag a]] (.u (.c (.d (.bool (lastOk a&& !(neg&&decide (a=[]))))))):=by
 refine Aj (T:=tb) Ai mixed Tryz.func102 rfl (by decide) (Ah rfl) rfl ?_;unfold St.init
 simp -implicitDefEqProofs[jJ,-natCast_add,-natCast_mul,-natCast_emod,-natCast_ediv,-natCast_pow];refine .inl ⟨_,QF a hl,?_⟩;generalize lastOk a=d;cases d<;>cases neg<;>simp -implicitDefEqProofs[jJ,-natCast_add,-natCast_mul,-natCast_emod,-natCast_ediv,-natCast_pow]
theorem YW(neg:Bool)(a:List Nat)(hl:a.length≤1099511627776):CallsF Tryz.prog 160 [.agg [.bool neg,Ag a]] (.u (.c (.d (.bool (lastOk a&& !(neg&&decide (a=[]))))))):=by
 refine Aj (T:=tb) Ai mixed Tryz.func160 rfl (by decide) (Ah rfl) rfl ?_;unfold St.init
 rcases Nat.eq_zero_or_pos a.length with h0|h0
 ·have:a=[]:=jzv.1 h0
  subst this;cases neg<;>simp -implicitDefEqProofs[jJ,-natCast_add,-natCast_mul,-natCast_emod,-natCast_ediv,-natCast_pow,lastOk]
 ·obtain⟨n,hn⟩: ∃n,a.length=n+1:=⟨a.length - 1,by omega⟩
  have hne:a≠[]:=fun h=>by rw[h]at hn;simp at hn
  obtain⟨x,hx⟩:=Fx (a:=a) (n:=n) (by omega)
  have hg:a.getLast? =some x:=by rw[List.getLast?_eq_getElem?,hn];simpa using hx
  cases neg<;>simp -implicitDefEqProofs[jJ,-natCast_add,-natCast_mul,-natCast_emod,-natCast_ediv,-natCast_pow,u16,hn,hx,hg,hne,lastOk]
  all_goals
   have e:a[n]'(by omega)=x:=by
    have:=An (l:=a) (i:=n) (by omega)
    rw[hx]at this
    exact(AE this).symm
   rw[e]
   exact⟨by omega,Iff.rfl⟩
def t8(b:Nat):Nat:=if b=0 then 0 else Nat.log2 b+1
def lenTab:ByteArray:=⟨#[0,1,2,2,3,3,3,3,4,4,4,4,4,4,4,4,5,5,5,5,5,5,5,5,5,5,5,5,5,5,5,5,6,6,6,6,6,6,6,6,6,6,6,6,6,6,6,6,6,6,6,6,6,6,6,6,6,6,6,6,6,6,6,6,7,7,7,7,7,7,7,7,7,7,7,7,7,7,7,7,7,7,7,7,7,7,7,7,7,7,7,7,7,7,7,7,7,7,7,7,7,7,7,7,7,7,7,7,7,7,7,7,7,7,7,7,7,7,7,7,7,7,7,7,7,7,7,7,8,8,8,8,8,8,8,8,8,8,8,8,8,8,8,8,8,8,8,8,8,8,8,8,8,8,8,8,8,8,8,8,8,8,8,8,8,8,8,8,8,8,8,8,8,8,8,8,8,8,8,8,8,8,8,8,8,8,8,8,8,8,8,8,8,8,8,8,8,8,8,8,8,8,8,8,8,8,8,8,8,8,8,8,8,8,8,8,8,8,8,8,8,8,8,8,8,8,8,8,8,8,8,8,8,8,8,8,8,8,8,8,8,8,8,8,8,8,8,8,8,8,8,8,8,8,8,8]⟩
theorem Xa: ∀b<256,lenTab[b]? =some (UInt8.ofNat (t8 b)):=by decide
theorem Ij: ∀b,b<256→t8 b<256:=by decide
def EE(x:Nat):Nat:=if x<256 then t8 x else 8+t8 (x/256)
theorem jkA(x:Nat)(hx:x<65536):CallsF Tryz.prog 299 [.c (.int .u16 x)] (.u (.c (.d (.int .i64 (EE x))))):=by
 unfold EE;refine Aj (T:=tb) Ai mixed Tryz.func299 rfl (by decide) (Ah rfl) rfl ?_;unfold St.init
 have hs:lenTab.size=256:=rfl
 by_cases h:x<256
 ·have h': ¬256≤x:=by omega
  have hg:=Xa x h;simp -implicitDefEqProofs[jJ,-natCast_add,-natCast_mul,-natCast_emod,-natCast_ediv,-natCast_pow,h,h'];refine⟨by change _<lenTab.size;omega,?_⟩
  change Ap (lenTab[x%256]?) _
  rw[Cp h,hg]
  have hk:t8 x<256:=Ij x h;simp -implicitDefEqProofs[jJ,-natCast_add,-natCast_mul,-natCast_emod,-natCast_ediv,-natCast_pow,hk];rw[Cp hk,KJ (by omega)]
  omega
 ·have h':256≤x:=by omega
  have hg:=Xa (x/256) (by omega)
  simp -implicitDefEqProofs[jJ,-natCast_add,-natCast_mul,-natCast_emod,-natCast_ediv,-natCast_pow,h,h'];refine⟨by change _<lenTab.size;omega,?_⟩
  change Ap (lenTab[x/256%256]?) _
  rw[Cp (show x/256<256 by omega),hg]
  have hk:t8 (x/256)<256:=Ij (x/256) (by omega)
  simp -implicitDefEqProofs[jJ,-natCast_add,-natCast_mul,-natCast_emod,-natCast_ediv,-natCast_pow,hk];rw[Cp hk,KJ (by omega)]
  omega
theorem Yc{b:Nat}(h:0<b):0<t8 b:=by unfold t8;split<;>omega
theorem jeh{x:Nat}(h:0<x):0<EE x:=by
 unfold EE;split
 ·exact Yc h
 ·omega
theorem jiw{x:Nat}(h:x<65536):EE x≤300:=by
 unfold EE;split
 ·have:=Ij x (by omega);omega
 ·have:=Ij (x/256) (by omega);omega
theorem O0{n:Nat}(h:n≠0): ∃x,(limbs n)[(limbs n).length - 1]? =some x∧0<x∧x<65536:=by
 induction n using Nat.strongRecOn with
 |_ n ih=>
  rw[DQ h]
  by_cases h0:n/65536=0
  ·rw[h0,B3]
   exact⟨n%65536,rfl,by omega,by omega⟩
  ·obtain⟨x,h1,h2⟩:=ih (n/65536) (by omega) h0
   have hl:(limbs (n/65536)).length≠0:=fun h=>h0 ((jpk _).1 h)
   refine⟨x,?_,h2⟩
   rw[show(n%65536::limbs (n/65536)).length - 1=(limbs (n/65536)).length - 1+1 by simp;omega]
   simpa using h1
def EC(n:Nat):Nat:=if n=0 then 0 else 16*((limbs n).length - 1)+EE ((limbs n).getD ((limbs n).length - 1) 0)
theorem M0(n:Nat):EC n=0↔n=0:=by
 unfold EC;split
 ·simp[*]
 ·rename_i h
  obtain⟨x,h1,h2,_⟩:=O0 h
  rw[AW,h1]
  have:=jeh h2
  simp only[Option.getD_some];omega
theorem Li(a:List Nat)(ha:Ok a)(hl:a.length≤1099511627776):CallsF Tryz.prog 227 [.c (Ag a)] (.u (.c (.d (.int .i64 (EC (val a)))))):=by
 refine Aj (T:=tb) Ai mixed Tryz.func227 rfl (by decide) (Ah rfl) rfl ?_;unfold St.init
 simp -implicitDefEqProofs[jJ,-natCast_add,-natCast_mul,-natCast_emod,-natCast_ediv,-natCast_pow];refine .inl ⟨_,EQ a ha hl,?_⟩;have hla:=Du a ha;by_cases h0:val a=0
 ·simp -implicitDefEqProofs[jJ,-natCast_add,-natCast_mul,-natCast_emod,-natCast_ediv,-natCast_pow,h0,B3,EC]
 ·obtain⟨x,h1,h2,h3⟩:=O0 h0
  have hne:limbs (val a)≠[]:=fun h=>h0 (limbs_nil.1 h)
  obtain⟨n,hn⟩: ∃n,(limbs (val a)).length=n+1:=⟨(limbs (val a)).length - 1,by have:=List.length_pos_iff.2 hne;omega⟩
  have hb:EC (val a)=16*n+EE x:=by
   unfold EC;rw[if_neg h0,AW,h1,hn];rfl
  rw[hb]
  rw[hn]at h1
  simp only[Nat.add_sub_cancel]at h1;clear hb;generalize limbs (val a)=y at*;have e:y[n]'(by omega)=x:=by
   have:=An (l:=y) (i:=n) (by omega)
   rw[h1]at this
   exact(AE this).symm
  simp -implicitDefEqProofs[jJ,-natCast_add,-natCast_mul,-natCast_emod,-natCast_ediv,-natCast_pow,hne,hn,h1,u16,e];refine⟨by omega,by omega,by omega,.inl ⟨_,jkA x h3,?_⟩⟩
  have:=jiw h3
  simp -implicitDefEqProofs[jJ,-natCast_add,-natCast_mul,-natCast_emod,-natCast_ediv,-natCast_pow];omega
theorem Fw(neg:Bool)(a:List Nat)(ha:Ok a)(hl:a.length≤1099511627776):CallsF Tryz.prog 144 [.agg [.bool neg,Ag a]] (.u (.c (.d (.int .i64 (AL neg (val a)))))):=by
 refine Aj (T:=tb) Ai mixed Tryz.func144 rfl (by decide) (Ah rfl) rfl ?_;unfold St.init
 simp -implicitDefEqProofs[jJ,-natCast_add,-natCast_mul,-natCast_emod,-natCast_ediv,-natCast_pow];refine .inl ⟨_,Li a ha hl,?_⟩;have hz:=M0 (val a);by_cases h0:val a=0
 ·have hb:=hz.2 h0;simp -implicitDefEqProofs[jJ,-natCast_add,-natCast_mul,-natCast_emod,-natCast_ediv,-natCast_pow,hb,AL];simp[h0]
 ·have:EC (val a)≠0:=fun h=>h0 (hz.1 h)
  cases neg<;>simp -implicitDefEqProofs[jJ,-natCast_add,-natCast_mul,-natCast_emod,-natCast_ediv,-natCast_pow,h0,this,AL]
theorem MQ(a b:List Nat)(ha:Ok a)(hl:a.length≤1099511627776)(hb:Ok b)(hm:b.length≤1099511627776):CallsF Tryz.prog 281 [.c (Ag a),.c (Ag b)] (.u (.c (.d (.int .i64 (Cs (val a) (val b)))))):=by
 refine Aj (T:=tb) Ai mixed Tryz.func281 rfl (by decide) (Ah rfl) rfl ?_;unfold St.init
 simp -implicitDefEqProofs[jJ,-natCast_add,-natCast_mul,-natCast_emod,-natCast_ediv,-natCast_pow];refine .inl ⟨_,jlF a b ha hl hb hm,?_⟩;simp -implicitDefEqProofs[jJ,-natCast_add,-natCast_mul,-natCast_emod,-natCast_ediv,-natCast_pow]
theorem jcy(m n:Nat):Ax (m:Int) (n:Int)=Cs m n:=by
 unfold Ax Cs;by_cases h1:m<n
 ·rw[if_pos (by omega),if_pos h1]
 ·rw[if_neg (by omega),if_neg h1]
  by_cases h2:n<m
  ·rw[if_pos (by omega),if_pos h2]
  ·rw[if_neg (by omega),if_neg h2]
theorem jeC(m n:Nat):Ax (-(m:Int)) (-(n:Int))=Cs n m:=by
 unfold Ax Cs;by_cases h1:n<m
 ·rw[if_pos (by omega),if_pos h1]
 ·rw[if_neg (by omega),if_neg h1]
  by_cases h2:m<n
  ·rw[if_pos (by omega),if_pos h2]
  ·rw[if_neg (by omega),if_neg h2]
theorem V7{na nb:Bool}{m n:Nat}(h:AL na m<AL nb n):Ax (Au na m) (Au nb n)= -1:=by
 unfold AL at h;unfold Ax Au;cases na<;>cases nb<;>(repeat' split at h)<;>simp_all<;>omega
theorem Oq{na nb:Bool}{m n:Nat}(h:AL nb n<AL na m):Ax (Au na m) (Au nb n)=1:=by
 unfold AL at h;unfold Ax Au;cases na<;>cases nb<;>(repeat' split at h)<;>simp_all<;>omega
theorem jdz{na nb:Bool}{m n:Nat}(h:AL na m=AL nb n)(h0:AL na m<0):Ax (Au na m) (Au nb n)=Cs n m:=by
 have e1:na=true:=by
  unfold AL at h0;cases na<;>(repeat' split at h0)<;>simp_all
 have e2:nb=true:=by
  rw[h]at h0
  unfold AL at h0;cases nb<;>(repeat' split at h0)<;>simp_all
 subst e1;subst e2;exact jeC m n
theorem jgj{na nb:Bool}{m n:Nat}(h:AL na m=AL nb n)(h0:0≤AL na m):Ax (Au na m) (Au nb n)=Cs m n:=by
 have e1:Au na m=(m:Int):=by
  unfold AL at h0;unfold Au;cases na<;>(repeat' split at h0)<;>simp_all
 have e2:Au nb n=(n:Int):=by
  rw[h]at h0
  unfold AL at h0;unfold Au;cases nb<;>(repeat' split at h0)<;>simp_all
 rw[e1,e2,jcy]
theorem jam(na nb:Bool)(a b:List Nat)(ha:Ok a)(hl:a.length≤1099511627776)(hb:Ok b)(hm:b.length≤1099511627776):
  CallsF Tryz.prog 204 [.agg [.bool na,Ag a],.agg [.bool nb,Ag b]] (.u (.c (.d (.int .i64 (Ax (Au na (val a)) (Au nb (val b))))))):=by
 refine Aj (T:=tb) Ai mixed Tryz.func204 rfl (by decide) (Ah rfl) rfl ?_;unfold St.init
 simp -implicitDefEqProofs[jJ,-natCast_add,-natCast_mul,-natCast_emod,-natCast_ediv,-natCast_pow];refine Ar (Ac [0,1,0,7,15,31]) [.any [] [] (Ak [[2],[8],[3]]),.one,.one,.one] (by rfl) ?_
 simp -implicitDefEqProofs[jJ,-natCast_add,-natCast_mul,-natCast_emod,-natCast_ediv,-natCast_pow]
 (first|refine Ab (Fw na a ha hl) ?_|refine Aa (Fw na a ha hl) ?_)
 simp -implicitDefEqProofs[jJ,-natCast_add,-natCast_mul,-natCast_emod,-natCast_ediv,-natCast_pow]
 (first|refine Ab (Fw nb b hb hm) ?_|refine Aa (Fw nb b hb hm) ?_)
 simp -implicitDefEqProofs[jJ,-natCast_add,-natCast_mul,-natCast_emod,-natCast_ediv,-natCast_pow];refine⟨fun h=>by rw[V7 h],fun h=>⟨fun h2=>by rw[Oq h2],fun h2=>⟨fun h3=> .inl ⟨_,MQ b a hb hm ha hl,?_⟩,fun h3=> .inl ⟨_,MQ a b ha hl hb hm,?_⟩⟩⟩⟩
 ·simp -implicitDefEqProofs[jJ,-natCast_add,-natCast_mul,-natCast_emod,-natCast_ediv,-natCast_pow];rw[jdz (by omega) h3]
 ·simp -implicitDefEqProofs[jJ,-natCast_add,-natCast_mul,-natCast_emod,-natCast_ediv,-natCast_pow];rw[jgj (by omega) h3]
theorem Wx(neg:Bool)(n:Nat):Au (sg neg n) n=Au neg n:=by
 unfold Au sg;cases neg<;>simp;intro h;subst h;rfl
theorem BY{n:Nat}(h:n<18446744073709551616):(limbs n).length≤4:=(I9 n).2 h
theorem LU(a b:List Nat)(ha:Ok a)(hl:a.length≤1099511627776)(hb:Ok b)(hm:b.length≤1099511627776)(h1:val a<18446744073709551616)(h2:val b<18446744073709551616):
  CallsF Tryz.prog 162 [.c (Ag a),.c (Ag b)] (.u (.c (.d (Ag (limbs (Nat.gcd (val a) (val b))))))):=by
 refine Aj (T:=tb) Ai mixed Tryz.func162 rfl (by decide) (Ah rfl) rfl ?_;unfold St.init
 simp -implicitDefEqProofs[jJ,-natCast_add,-natCast_mul,-natCast_emod,-natCast_ediv,-natCast_pow]
 (first|refine Ab (F6 a ha hl) ?_|refine Aa (F6 a ha hl) ?_)
 simp -implicitDefEqProofs[jJ,-natCast_add,-natCast_mul,-natCast_emod,-natCast_ediv,-natCast_pow]
 (first|refine Ab (F6 b hb hm) ?_|refine Aa (F6 b hb hm) ?_)
 simp -implicitDefEqProofs[jJ,-natCast_add,-natCast_mul,-natCast_emod,-natCast_ediv,-natCast_pow];have la:=Du a ha;have lb:=Du b hb;have u1:=Xq (limbs (val a)) (AC _) (by omega)
 have u2:=Xq (limbs (val b)) (AC _) (by omega)
 rw[AB]at u1 u2
 have f1:=fits64_iff.2 h1;have f2:=fits64_iff.2 h2;rw[f1]at u1;rw[f2]at u2;have k1:Fp (val a)=val a:=by simp[Fp,f1]
 have k2:Fp (val b)=val b:=by simp[Fp,f2]
 rw[k1]at u1
 rw[k2]at u2
 clear hl hm ha hb la lb k1 k2 f1 f2;generalize val a=m at*;generalize val b=n at*;refine AA (fun _:Unit=>⟨[(0,vC (.d (Ag (limbs m)))),(1,vC (.d (Ag (limbs n))))],[]⟩) (fun _=>True) (fun _=>0) () (by simp) trivial ?_
 intro _ _;by_cases h0:n=0
 ·subst h0;simp -implicitDefEqProofs[jJ,-natCast_add,-natCast_mul,-natCast_emod,-natCast_ediv,-natCast_pow,B3]
 ·have hp:0<(limbs n).length:=limbs_pos_len.2 (by omega)
  simp -implicitDefEqProofs[jJ,-natCast_add,-natCast_mul,-natCast_emod,-natCast_ediv,-natCast_pow,hp]
  (first|refine Ab u1 ?_|refine Aa u1 ?_)
  simp -implicitDefEqProofs[jJ,-natCast_add,-natCast_mul,-natCast_emod,-natCast_ediv,-natCast_pow]
  (first|refine Ab u2 ?_|refine Aa u2 ?_)
  simp -implicitDefEqProofs[jJ,-natCast_add,-natCast_mul,-natCast_emod,-natCast_ediv,-natCast_pow];refine AA (fun p:Nat×Nat=>⟨[(5,vI .u64 p.1),(7,vI .u64 p.2)],[]⟩) (fun p=>Nat.gcd p.1 p.2=Nat.gcd m n∧p.1<18446744073709551616∧p.2<18446744073709551616) (fun p=>p.2) (m,n) (by simp) ⟨rfl,h1,h2⟩ ?_
  rintro⟨x,y⟩ ⟨g1,g2,g3⟩
  simp only at g1 g2 g3;by_cases hy:0<y
  ·simp -implicitDefEqProofs[jJ,-natCast_add,-natCast_mul,-natCast_emod,-natCast_ediv,-natCast_pow,hy];refine Ar (Ac [0,0,0,6,3,31]) [.any [] [] (Ak [[7],[5],[7],[36,37],[35]]),.one] (by rfl) ?_
   have hy0:y≠0:=by omega
   simp -implicitDefEqProofs[jJ,-natCast_add,-natCast_mul,-natCast_emod,-natCast_ediv,-natCast_pow,hy0];refine⟨y,x%y,⟨rfl,rfl⟩,⟨?_,g3,Nat.lt_of_le_of_lt (Nat.mod_le _ _) g2⟩,Nat.mod_lt _ hy⟩;rw[Nat.gcd_comm,←Nat.gcd_rec,Nat.gcd_comm,g1]
  ·have:y=0:=by omega
   subst this;simp -implicitDefEqProofs[jJ,-natCast_add,-natCast_mul,-natCast_emod,-natCast_ediv,-natCast_pow]
   (first|refine Ab (K3 x g2) ?_|refine Aa (K3 x g2) ?_)
   simp -implicitDefEqProofs[jJ,-natCast_add,-natCast_mul,-natCast_emod,-natCast_ediv,-natCast_pow];rw[←g1,Nat.gcd_zero_right]
theorem jgg(a b:List Nat)(ha:Ok a)(hl:a.length≤1099511627776)(hb:Ok b)(hm:b.length≤1099511627776)(h1:val a<18446744073709551616)(h2:val b<18446744073709551616)(h0:val b≠0):
  CallsF Tryz.prog 167 [.c (Ag a),.c (Ag b)] (.tup [.c (.d (Ag (limbs (val a/val b)))),.c (.d (Ag (limbs (val a%val b)))),.c (.d (.int .i64 0))]):=by
 refine Aj (T:=tb) Ai mixed Tryz.func167 rfl (by decide) (Ah rfl) rfl ?_;unfold St.init
 simp -implicitDefEqProofs[jJ,-natCast_add,-natCast_mul,-natCast_emod,-natCast_ediv,-natCast_pow]
 (first|refine Ab (EW a ha hl) ?_|refine Aa (EW a ha hl) ?_)
 simp -implicitDefEqProofs[jJ,-natCast_add,-natCast_mul,-natCast_emod,-natCast_ediv,-natCast_pow]
 (first|refine Ab (EW b hb hm) ?_|refine Aa (EW b hb hm) ?_)
 have l1:=BY h1;have l2:=BY h2;have s1:=VU (limbs (val a)) (AC _) l1;have s2:=VU (limbs (val b)) (AC _) l2;rw[AB]at s1 s2;have hp:limbs (val b)≠[]:=fun h=>h0 (limbs_nil.1 h)
 clear hl hm ha hb;generalize val a=m at*;generalize val b=n at*;have e1:m/n%18446744073709551616=m/n:=Cp (Nat.lt_of_le_of_lt (Nat.div_le_self _ _) h1);have e2:m%n<18446744073709551616:=Nat.lt_of_le_of_lt (Nat.mod_le _ _) h1;simp -implicitDefEqProofs[jJ,-natCast_add,-natCast_mul,-natCast_emod,-natCast_ediv,-natCast_pow,hp,l1,l2]
 (first|refine Ab s1 ?_|refine Aa s1 ?_)
 simp -implicitDefEqProofs[jJ,-natCast_add,-natCast_mul,-natCast_emod,-natCast_ediv,-natCast_pow]
 (first|refine Ab s2 ?_|refine Aa s2 ?_)
 simp -implicitDefEqProofs[jJ,-natCast_add,-natCast_mul,-natCast_emod,-natCast_ediv,-natCast_pow,h0,e1]
 (first|refine Ab (GE (m/n) (by omega)) ?_|refine Aa (GE (m/n) (by omega)) ?_)
 simp -implicitDefEqProofs[jJ,-natCast_add,-natCast_mul,-natCast_emod,-natCast_ediv,-natCast_pow]
 (first|refine Ab s1 ?_|refine Aa s1 ?_)
 simp -implicitDefEqProofs[jJ,-natCast_add,-natCast_mul,-natCast_emod,-natCast_ediv,-natCast_pow]
 (first|refine Ab s2 ?_|refine Aa s2 ?_)
 simp -implicitDefEqProofs[jJ,-natCast_add,-natCast_mul,-natCast_emod,-natCast_ediv,-natCast_pow,h0]
 (first|refine Ab (GE (m%n) e2) ?_|refine Aa (GE (m%n) e2) ?_)
 simp -implicitDefEqProofs[jJ,-natCast_add,-natCast_mul,-natCast_emod,-natCast_ediv,-natCast_pow]
theorem jcx(a b:List Nat)(ha:Ok a)(hl:a.length≤1099511627776)(hb:Ok b)(hm:b.length≤1099511627776)(h1:val a<18446744073709551616)(h2:val b<18446744073709551616):
  CallsF Tryz.prog 105 [.c (Ag a),.c (Ag b)] (.u (.c (.d (Ag (limbs (Nat.gcd (val a) (val b))))))):=by
 refine Aj (T:=tb) Ai mixed Tryz.func105 rfl (by decide) (Ah rfl) rfl ?_;unfold St.init
 simp -implicitDefEqProofs[jJ,-natCast_add,-natCast_mul,-natCast_emod,-natCast_ediv,-natCast_pow]
 (first|refine Ab (EW a ha hl) ?_|refine Aa (EW a ha hl) ?_)
 simp -implicitDefEqProofs[jJ,-natCast_add,-natCast_mul,-natCast_emod,-natCast_ediv,-natCast_pow]
 (first|refine Ab (EW b hb hm) ?_|refine Aa (EW b hb hm) ?_)
 simp -implicitDefEqProofs[jJ,-natCast_add,-natCast_mul,-natCast_emod,-natCast_ediv,-natCast_pow];clear hl hm ha hb;generalize val a=m at*;generalize val b=n at*;refine AA (fun p:Nat×Nat=>⟨[(0,vC (.d (Ag (limbs p.1)))),(1,vC (.d (Ag (limbs p.2))))],[]⟩) (fun p=>Nat.gcd p.1 p.2=Nat.gcd m n∧p.1<18446744073709551616∧p.2<18446744073709551616) (fun p=>p.2) (m,n) (by simp) ⟨rfl,h1,h2⟩ ?_
 rintro⟨x,y⟩ ⟨g1,g2,g3⟩
 simp only at g1 g2 g3;by_cases h0:y=0
 ·subst h0;simp -implicitDefEqProofs[jJ,-natCast_add,-natCast_mul,-natCast_emod,-natCast_ediv,-natCast_pow,B3];rw[←g1,Nat.gcd_zero_right]
 ·have hp:0<(limbs y).length:=limbs_pos_len.2 (by omega)
  have l1:=BY g2;have l2:=BY g3;have d:=jgg (limbs x) (limbs y) (AC _) (by omega) (AC _) (by omega) (by rw[AB];exact g2) (by rw[AB];exact g3) (by rw[AB];exact h0)
  rw[AB,AB]at d
  simp -implicitDefEqProofs[jJ,-natCast_add,-natCast_mul,-natCast_emod,-natCast_ediv,-natCast_pow,hp]
  (first|refine Ab d ?_|refine Aa d ?_)
  simp -implicitDefEqProofs[jJ,-natCast_add,-natCast_mul,-natCast_emod,-natCast_ediv,-natCast_pow];refine⟨y,x%y,⟨rfl,rfl⟩,⟨?_,g3,Nat.lt_of_le_of_lt (Nat.mod_le _ _) g2⟩,Nat.mod_lt _ (by omega)⟩
  rw[Nat.gcd_comm,←Nat.gcd_rec,Nat.gcd_comm,g1]
end Go.Va
