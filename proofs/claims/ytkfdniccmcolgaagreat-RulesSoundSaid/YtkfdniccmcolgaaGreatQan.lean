/- a part of the proof -/
import Derived.Test.YtkfdniccmcolgaaGreatQam
set_option linter.all false
set_option maxHeartbeats 4000000
set_option maxRecDepth 10000
namespace Go.Va
open Int (natCast_add natCast_mul natCast_emod natCast_ediv natCast_pow)
open Go.Proofs
def Uq:List (List Nat):=(Aj [0,1,0,4,15,0,32,0,128,480,1023,2047])
@[simp]def Wq:List Seg:=[.any [] [] (Ao [[2],[5],[3],[7],[6,8],[2],[10],[3],[12],[11,13]]),.one,.one]
def sg(neg:Bool)(n:Nat):Bool:=neg&&decide (0<n)
def AO(neg:Bool)(n:Nat):List RC:=[.d (.bool (sg neg n)),.d (Ab (limbs n))]
def toZ(neg:Bool)(n:Nat):Int:=if neg then -(n:Int) else n
def AN(neg:Bool)(n:Nat):Int:=if n=0 then 0 else if neg then -1 else 1
theorem limbs_pos_len{n:Nat}:0<(limbs n).length↔0<n:=by
 rw[List.length_pos_iff,ne_eq,limbs_nil];omega
theorem LO(neg:Bool)(a:List Nat)(ha:Ok a)(hl:a.length≤1099511627776):CallsF Tryz.prog 97 [.c (.bool neg),.c (Ab a)] (.u (.agg (AO neg (val a)))):=by
 refine Ae (T:=tb) Ad mixed Tryz.func97 rfl (by decide) (Ac rfl) rfl ?_;unfold St.init
 simp -implicitDefEqProofs[jJ,-natCast_add,-natCast_mul,-natCast_emod,-natCast_ediv,-natCast_pow];refine .inl ⟨_,GB a ha hl,?_⟩;have hp:= @limbs_pos_len (val a);cases neg<;>simp -implicitDefEqProofs[jJ,-natCast_add,-natCast_mul,-natCast_emod,-natCast_ediv,-natCast_pow,AO,sg,hp]
theorem jf6(neg:Bool)(a:List Nat)(ha:Ok a)(hl:a.length≤1099511627776):CallsF Tryz.prog 287 [.c (.bool neg),.c (Ab a)] (.u (.agg (AO neg (val a)))):=by
 refine Ae (T:=tb) Ad mixed Tryz.func287 rfl (by decide) (Ac rfl) rfl ?_;unfold St.init
 simp -implicitDefEqProofs[jJ,-natCast_add,-natCast_mul,-natCast_emod,-natCast_ediv,-natCast_pow];refine .inl ⟨_,Gh a ha hl,?_⟩;have hp:= @limbs_pos_len (val a);cases neg<;>simp -implicitDefEqProofs[jJ,-natCast_add,-natCast_mul,-natCast_emod,-natCast_ediv,-natCast_pow,AO,sg,hp]
theorem TD(neg:Bool)(n:Nat):CallsF Tryz.prog 229 [.c (.bool neg),.c (Ab (limbs n))] (.u (.agg (AO neg n))):=by
 refine Ae (T:=tb) Ad mixed Tryz.func229 rfl (by decide) (Ac rfl) rfl ?_;unfold St.init
 have hp:= @limbs_pos_len n
 cases neg<;>simp -implicitDefEqProofs[jJ,-natCast_add,-natCast_mul,-natCast_emod,-natCast_ediv,-natCast_pow,AO,sg,hp]
theorem I8(neg:Bool)(a:List Nat)(ha:Ok a)(hl:a.length≤1099511627776):CallsF Tryz.prog 96 [.agg [.bool neg,Ab a]] (.u (.agg (AO neg (val a)))):=by
 refine Ae (T:=tb) Ad mixed Tryz.func96 rfl (by decide) (Ac rfl) rfl ?_;unfold St.init
 simp -implicitDefEqProofs[jJ,-natCast_add,-natCast_mul,-natCast_emod,-natCast_ediv,-natCast_pow];refine .inl ⟨_,LO neg a ha hl,?_⟩;simp -implicitDefEqProofs[jJ,-natCast_add,-natCast_mul,-natCast_emod,-natCast_ediv,-natCast_pow,AO]
theorem SP(neg:Bool)(a:List Nat)(ha:Ok a)(hl:a.length≤1099511627776):CallsF Tryz.prog 269 [.agg [.bool neg,Ab a]] (.u (.agg (AO neg (val a)))):=by
 refine Ae (T:=tb) Ad mixed Tryz.func269 rfl (by decide) (Ac rfl) rfl ?_;unfold St.init
 simp -implicitDefEqProofs[jJ,-natCast_add,-natCast_mul,-natCast_emod,-natCast_ediv,-natCast_pow];refine .inl ⟨_,jf6 neg a ha hl,?_⟩;simp -implicitDefEqProofs[jJ,-natCast_add,-natCast_mul,-natCast_emod,-natCast_ediv,-natCast_pow,AO]
theorem I4(na nb:Bool)(a b:List Nat)(ha:Ok a)(hl:a.length≤274877906944)(hb:Ok b)(hm:b.length≤274877906944):
  CallsF Tryz.prog 136 [.agg [.bool na,Ab a],.agg [.bool nb,Ab b]] (.u (.agg (AO (!decide (na=nb)) (val a*val b)))):=by
 refine Ae (T:=tb) Ad mixed Tryz.func136 rfl (by decide) (Ac rfl) rfl ?_;unfold St.init
 simp -implicitDefEqProofs[jJ,-natCast_add,-natCast_mul,-natCast_emod,-natCast_ediv,-natCast_pow];refine Af Uq Wq (by rfl) ?_
 simp -implicitDefEqProofs[jJ,-natCast_add,-natCast_mul,-natCast_emod,-natCast_ediv,-natCast_pow];refine⟨_,Wy a b ha hl hb hm,?_⟩;simp -implicitDefEqProofs[jJ,-natCast_add,-natCast_mul,-natCast_emod,-natCast_ediv,-natCast_pow];refine .inl ⟨_,TD _ _,?_⟩;simp -implicitDefEqProofs[jJ,-natCast_add,-natCast_mul,-natCast_emod,-natCast_ediv,-natCast_pow,AO]
theorem Jt(na nb:Bool)(a b:List Nat)(ha:Ok a)(hl:a.length≤274877906944)(hb:Ok b)(hm:b.length≤274877906944)(hv:(limbs (val a*val b)).length≤1099511627776):
  CallsF Tryz.prog 91 [.agg [.bool na,Ab a],.agg [.bool nb,Ab b]] (.u (.agg (AO (!decide (na=nb)) (val a*val b)))):=by
 refine Ae (T:=tb) Ad mixed Tryz.func91 rfl (by decide) (Ac rfl) rfl ?_;unfold St.init
 simp -implicitDefEqProofs[jJ,-natCast_add,-natCast_mul,-natCast_emod,-natCast_ediv,-natCast_pow];refine Af Uq Wq (by rfl) ?_
 simp -implicitDefEqProofs[jJ,-natCast_add,-natCast_mul,-natCast_emod,-natCast_ediv,-natCast_pow];refine⟨_,Rd a b ha hl hb hm,?_⟩;simp -implicitDefEqProofs[jJ,-natCast_add,-natCast_mul,-natCast_emod,-natCast_ediv,-natCast_pow];have h:=LO (!decide (na=nb)) (limbs (val a*val b)) (Ap _) hv;rw[Am]at h;refine .inl ⟨_,h,?_⟩;simp -implicitDefEqProofs[jJ,-natCast_add,-natCast_mul,-natCast_emod,-natCast_ediv,-natCast_pow,AO]
theorem ZC(n:Nat)(hn:n<9223372036854775808):CallsF Tryz.prog 189 [.c (.int .i64 n)] (.u (.agg (AO false n))):=by
 refine Ae (T:=tb) Ad mixed Tryz.func189 rfl (by decide) (Ac rfl) rfl ?_;unfold St.init
 simp -implicitDefEqProofs[jJ,-natCast_add,-natCast_mul,-natCast_emod,-natCast_ediv,-natCast_pow];rw[AH (by omega)]
 refine .inl ⟨_,LQ n (by omega),?_⟩
 simp -implicitDefEqProofs[jJ,-natCast_add,-natCast_mul,-natCast_emod,-natCast_ediv,-natCast_pow];refine .inl ⟨_,TD _ _,?_⟩;simp -implicitDefEqProofs[jJ,-natCast_add,-natCast_mul,-natCast_emod,-natCast_ediv,-natCast_pow,AO]
theorem jge(n:Nat)(hn:n<9223372036854775808):CallsF Tryz.prog 46 [.c (.int .i64 n)] (.u (.agg (AO false n))):=by
 refine Ae (T:=tb) Ad mixed Tryz.func46 rfl (by decide) (Ac rfl) rfl ?_;unfold St.init
 simp -implicitDefEqProofs[jJ,-natCast_add,-natCast_mul,-natCast_emod,-natCast_ediv,-natCast_pow];rw[AH (by omega)]
 refine .inl ⟨_,JG n (by omega),?_⟩
 simp -implicitDefEqProofs[jJ,-natCast_add,-natCast_mul,-natCast_emod,-natCast_ediv,-natCast_pow];have h:=LO false (limbs n) (Ap _) (by have:=(IX n).2 (by omega);omega)
 rw[Am]at h
 refine .inl ⟨_,h,?_⟩;simp -implicitDefEqProofs[jJ,-natCast_add,-natCast_mul,-natCast_emod,-natCast_ediv,-natCast_pow,AO]
theorem Yi(neg:Bool)(a:List Nat)(hl:a.length≤1099511627776):CallsF Tryz.prog 155 [.agg [.bool neg,Ab a]] (.u (.c (.d (.bool (lastOk a&& !(neg&&decide (a=[]))))))):=by
 refine Ae (T:=tb) Ad mixed Tryz.func155 rfl (by decide) (Ac rfl) rfl ?_;unfold St.init
 simp -implicitDefEqProofs[jJ,-natCast_add,-natCast_mul,-natCast_emod,-natCast_ediv,-natCast_pow];refine .inl ⟨_,Ql a hl,?_⟩;generalize lastOk a=d;cases d<;>cases neg<;>simp -implicitDefEqProofs[jJ,-natCast_add,-natCast_mul,-natCast_emod,-natCast_ediv,-natCast_pow]
theorem X0(neg:Bool)(a:List Nat)(hl:a.length≤1099511627776):CallsF Tryz.prog 233 [.agg [.bool neg,Ab a]] (.u (.c (.d (.bool (lastOk a&& !(neg&&decide (a=[]))))))):=by
 refine Ae (T:=tb) Ad mixed Tryz.func233 rfl (by decide) (Ac rfl) rfl ?_;unfold St.init
 rcases Nat.eq_zero_or_pos a.length with h0|h0
 ·have:a=[]:=jzv.1 h0
  subst this;cases neg<;>simp -implicitDefEqProofs[jJ,-natCast_add,-natCast_mul,-natCast_emod,-natCast_ediv,-natCast_pow,lastOk]
 ·obtain⟨n,hn⟩: ∃n,a.length=n+1:=⟨a.length - 1,by omega⟩
  have hne:a≠[]:=fun h=>by rw[h]at hn;simp at hn
  obtain⟨x,hx⟩:=Gp (a:=a) (n:=n) (by omega)
  have hg:a.getLast? =some x:=by rw[List.getLast?_eq_getElem?,hn];simpa using hx
  cases neg<;>simp -implicitDefEqProofs[jJ,-natCast_add,-natCast_mul,-natCast_emod,-natCast_ediv,-natCast_pow,u16,hn,hx,hg,hne,lastOk]
  all_goals
   have e:a[n]'(by omega)=x:=by
    have:=Ai (l:=a) (i:=n) (by omega)
    rw[hx]at this
    exact(AX this).symm
   rw[e]
   exact⟨by omega,Iff.rfl⟩
def t8(b:Nat):Nat:=if b=0 then 0 else Nat.log2 b+1
def lenTab:ByteArray:=⟨#[0,1,2,2,3,3,3,3,4,4,4,4,4,4,4,4,5,5,5,5,5,5,5,5,5,5,5,5,5,5,5,5,6,6,6,6,6,6,6,6,6,6,6,6,6,6,6,6,6,6,6,6,6,6,6,6,6,6,6,6,6,6,6,6,7,7,7,7,7,7,7,7,7,7,7,7,7,7,7,7,7,7,7,7,7,7,7,7,7,7,7,7,7,7,7,7,7,7,7,7,7,7,7,7,7,7,7,7,7,7,7,7,7,7,7,7,7,7,7,7,7,7,7,7,7,7,7,7,8,8,8,8,8,8,8,8,8,8,8,8,8,8,8,8,8,8,8,8,8,8,8,8,8,8,8,8,8,8,8,8,8,8,8,8,8,8,8,8,8,8,8,8,8,8,8,8,8,8,8,8,8,8,8,8,8,8,8,8,8,8,8,8,8,8,8,8,8,8,8,8,8,8,8,8,8,8,8,8,8,8,8,8,8,8,8,8,8,8,8,8,8,8,8,8,8,8,8,8,8,8,8,8,8,8,8,8,8,8,8,8,8,8,8,8,8,8,8,8,8,8,8,8,8,8,8,8]⟩
theorem V8: ∀b<256,lenTab[b]? =some (UInt8.ofNat (t8 b)):=by decide
theorem KQ: ∀b,b<256→t8 b<256:=by decide
def len16(x:Nat):Nat:=if x<256 then t8 x else 8+t8 (x/256)
theorem Sk(x:Nat)(hx:x<65536):CallsF Tryz.prog 241 [.c (.int .u16 x)] (.u (.c (.d (.int .i64 (len16 x))))):=by
 unfold len16;refine Ae (T:=tb) Ad mixed Tryz.func241 rfl (by decide) (Ac rfl) rfl ?_;unfold St.init
 have hs:lenTab.size=256:=rfl
 by_cases h:x<256
 ·have h': ¬256≤x:=by omega
  have hg:=V8 x h;simp -implicitDefEqProofs[jJ,-natCast_add,-natCast_mul,-natCast_emod,-natCast_ediv,-natCast_pow,h,h'];refine⟨by change _<lenTab.size;omega,?_⟩
  change As (lenTab[x%256]?) _
  rw[AH h,hg]
  have hk:t8 x<256:=KQ x h;simp -implicitDefEqProofs[jJ,-natCast_add,-natCast_mul,-natCast_emod,-natCast_ediv,-natCast_pow,hk];rw[AH hk,Hx (by omega)]
  omega
 ·have h':256≤x:=by omega
  have hg:=V8 (x/256) (by omega)
  simp -implicitDefEqProofs[jJ,-natCast_add,-natCast_mul,-natCast_emod,-natCast_ediv,-natCast_pow,h,h'];refine⟨by change _<lenTab.size;omega,?_⟩
  change As (lenTab[x/256%256]?) _
  rw[AH (show x/256<256 by omega),hg]
  have hk:t8 (x/256)<256:=KQ (x/256) (by omega)
  simp -implicitDefEqProofs[jJ,-natCast_add,-natCast_mul,-natCast_emod,-natCast_ediv,-natCast_pow,hk];rw[AH hk,Hx (by omega)]
  omega
theorem Xa{b:Nat}(h:0<b):0<t8 b:=by unfold t8;split<;>omega
theorem jdc{x:Nat}(h:0<x):0<len16 x:=by
 unfold len16;split
 ·exact Xa h
 ·omega
theorem jcy{x:Nat}(h:x<65536):len16 x≤300:=by
 unfold len16;split
 ·have:=KQ x (by omega);omega
 ·have:=KQ (x/256) (by omega);omega
theorem J3{n:Nat}(h:n≠0): ∃x,(limbs n)[(limbs n).length - 1]? =some x∧0<x∧x<65536:=by
 induction n using Nat.strongRecOn with
 |_ n ih=>
  rw[Fl h]
  by_cases h0:n/65536=0
  ·rw[h0,CZ]
   exact⟨n%65536,rfl,by omega,by omega⟩
  ·obtain⟨x,h1,h2⟩:=ih (n/65536) (by omega) h0
   have hl:(limbs (n/65536)).length≠0:=fun h=>h0 ((SB _).1 h)
   refine⟨x,?_,h2⟩
   rw[show(n%65536::limbs (n/65536)).length - 1=(limbs (n/65536)).length - 1+1 by simp;omega]
   simpa using h1
def GM(n:Nat):Nat:=if n=0 then 0 else 16*((limbs n).length - 1)+len16 ((limbs n).getD ((limbs n).length - 1) 0)
theorem PE(n:Nat):GM n=0↔n=0:=by
 unfold GM;split
 ·simp[*]
 ·rename_i h
  obtain⟨x,h1,h2,_⟩:=J3 h
  rw[Ar,h1]
  have:=jdc h2
  simp only[Option.getD_some];omega
theorem QS(a:List Nat)(ha:Ok a)(hl:a.length≤1099511627776):CallsF Tryz.prog 169 [.c (Ab a)] (.u (.c (.d (.int .i64 (GM (val a)))))):=by
 refine Ae (T:=tb) Ad mixed Tryz.func169 rfl (by decide) (Ac rfl) rfl ?_;unfold St.init
 simp -implicitDefEqProofs[jJ,-natCast_add,-natCast_mul,-natCast_emod,-natCast_ediv,-natCast_pow];refine .inl ⟨_,C1 a ha hl,?_⟩;have hla:=B0 a ha;by_cases h0:val a=0
 ·simp -implicitDefEqProofs[jJ,-natCast_add,-natCast_mul,-natCast_emod,-natCast_ediv,-natCast_pow,h0,CZ,GM]
 ·obtain⟨x,h1,h2,h3⟩:=J3 h0
  have hne:limbs (val a)≠[]:=fun h=>h0 (limbs_nil.1 h)
  obtain⟨n,hn⟩: ∃n,(limbs (val a)).length=n+1:=⟨(limbs (val a)).length - 1,by have:=List.length_pos_iff.2 hne;omega⟩
  have hb:GM (val a)=16*n+len16 x:=by
   unfold GM;rw[if_neg h0,Ar,h1,hn];rfl
  rw[hb]
  rw[hn]at h1
  simp only[Nat.add_sub_cancel]at h1;clear hb;generalize limbs (val a)=y at*;have e:y[n]'(by omega)=x:=by
   have:=Ai (l:=y) (i:=n) (by omega)
   rw[h1]at this
   exact(AX this).symm
  simp -implicitDefEqProofs[jJ,-natCast_add,-natCast_mul,-natCast_emod,-natCast_ediv,-natCast_pow,hne,hn,h1,u16,e];refine⟨by omega,by omega,by omega,.inl ⟨_,Sk x h3,?_⟩⟩
  have:=jcy h3
  simp -implicitDefEqProofs[jJ,-natCast_add,-natCast_mul,-natCast_emod,-natCast_ediv,-natCast_pow];omega
theorem J9(neg:Bool)(a:List Nat)(ha:Ok a)(hl:a.length≤1099511627776):CallsF Tryz.prog 84 [.agg [.bool neg,Ab a]] (.u (.c (.d (.int .i64 (AN neg (val a)))))):=by
 refine Ae (T:=tb) Ad mixed Tryz.func84 rfl (by decide) (Ac rfl) rfl ?_;unfold St.init
 simp -implicitDefEqProofs[jJ,-natCast_add,-natCast_mul,-natCast_emod,-natCast_ediv,-natCast_pow];refine .inl ⟨_,QS a ha hl,?_⟩;have hz:=PE (val a);by_cases h0:val a=0
 ·have hb:=hz.2 h0;simp -implicitDefEqProofs[jJ,-natCast_add,-natCast_mul,-natCast_emod,-natCast_ediv,-natCast_pow,hb,AN];simp[h0]
 ·have:GM (val a)≠0:=fun h=>h0 (hz.1 h)
  cases neg<;>simp -implicitDefEqProofs[jJ,-natCast_add,-natCast_mul,-natCast_emod,-natCast_ediv,-natCast_pow,h0,this,AN]
theorem Uh(a b:List Nat)(ha:Ok a)(hl:a.length≤1099511627776)(hb:Ok b)(hm:b.length≤1099511627776):CallsF Tryz.prog 227 [.c (Ab a),.c (Ab b)] (.u (.c (.d (.int .i64 (cmp3 (val a) (val b)))))):=by
 refine Ae (T:=tb) Ad mixed Tryz.func227 rfl (by decide) (Ac rfl) rfl ?_;unfold St.init
 simp -implicitDefEqProofs[jJ,-natCast_add,-natCast_mul,-natCast_emod,-natCast_ediv,-natCast_pow];refine .inl ⟨_,U6 a b ha hl hb hm,?_⟩;simp -implicitDefEqProofs[jJ,-natCast_add,-natCast_mul,-natCast_emod,-natCast_ediv,-natCast_pow]
theorem Pn(m n:Nat):Az (m:Int) (n:Int)=cmp3 m n:=by
 unfold Az cmp3;by_cases h1:m<n
 ·rw[if_pos (by omega),if_pos h1]
 ·rw[if_neg (by omega),if_neg h1]
  by_cases h2:n<m
  ·rw[if_pos (by omega),if_pos h2]
  ·rw[if_neg (by omega),if_neg h2]
theorem Uv(m n:Nat):Az (-(m:Int)) (-(n:Int))=cmp3 n m:=by
 unfold Az cmp3;by_cases h1:n<m
 ·rw[if_pos (by omega),if_pos h1]
 ·rw[if_neg (by omega),if_neg h1]
  by_cases h2:m<n
  ·rw[if_pos (by omega),if_pos h2]
  ·rw[if_neg (by omega),if_neg h2]
theorem T5{na nb:Bool}{m n:Nat}(h:AN na m<AN nb n):Az (toZ na m) (toZ nb n)= -1:=by
 unfold AN at h;unfold Az toZ;cases na<;>cases nb<;>(repeat' split at h)<;>simp_all<;>omega
theorem PB{na nb:Bool}{m n:Nat}(h:AN nb n<AN na m):Az (toZ na m) (toZ nb n)=1:=by
 unfold AN at h;unfold Az toZ;cases na<;>cases nb<;>(repeat' split at h)<;>simp_all<;>omega
theorem jfW{na nb:Bool}{m n:Nat}(h:AN na m=AN nb n)(h0:AN na m<0):Az (toZ na m) (toZ nb n)=cmp3 n m:=by
 have e1:na=true:=by
  unfold AN at h0;cases na<;>(repeat' split at h0)<;>simp_all
 have e2:nb=true:=by
  rw[h]at h0
  unfold AN at h0;cases nb<;>(repeat' split at h0)<;>simp_all
 subst e1;subst e2;exact Uv m n
theorem ZF{na nb:Bool}{m n:Nat}(h:AN na m=AN nb n)(h0:0≤AN na m):Az (toZ na m) (toZ nb n)=cmp3 m n:=by
 have e1:toZ na m=(m:Int):=by
  unfold AN at h0;unfold toZ;cases na<;>(repeat' split at h0)<;>simp_all
 have e2:toZ nb n=(n:Int):=by
  rw[h]at h0
  unfold AN at h0;unfold toZ;cases nb<;>(repeat' split at h0)<;>simp_all
 rw[e1,e2,Pn]
theorem jgc(na nb:Bool)(a b:List Nat)(ha:Ok a)(hl:a.length≤1099511627776)(hb:Ok b)(hm:b.length≤1099511627776):
  CallsF Tryz.prog 135 [.agg [.bool na,Ab a],.agg [.bool nb,Ab b]] (.u (.c (.d (.int .i64 (Az (toZ na (val a)) (toZ nb (val b))))))):=by
 refine Ae (T:=tb) Ad mixed Tryz.func135 rfl (by decide) (Ac rfl) rfl ?_;unfold St.init
 simp -implicitDefEqProofs[jJ,-natCast_add,-natCast_mul,-natCast_emod,-natCast_ediv,-natCast_pow];refine Af (Aj [0,1,0,7,15,31]) [.any [] [] (Ao [[2],[8],[3]]),.one,.one,.one] (by rfl) ?_
 simp -implicitDefEqProofs[jJ,-natCast_add,-natCast_mul,-natCast_emod,-natCast_ediv,-natCast_pow];refine Al (J9 na a ha hl) ?_;simp -implicitDefEqProofs[jJ,-natCast_add,-natCast_mul,-natCast_emod,-natCast_ediv,-natCast_pow];refine Aa (J9 nb b hb hm) ?_;simp -implicitDefEqProofs[jJ,-natCast_add,-natCast_mul,-natCast_emod,-natCast_ediv,-natCast_pow];refine⟨fun h=>by rw[T5 h],fun h=>⟨fun h2=>by rw[PB h2],fun h2=>⟨fun h3=> .inl ⟨_,Uh b a hb hm ha hl,?_⟩,fun h3=> .inl ⟨_,Uh a b ha hl hb hm,?_⟩⟩⟩⟩
 ·simp -implicitDefEqProofs[jJ,-natCast_add,-natCast_mul,-natCast_emod,-natCast_ediv,-natCast_pow];rw[jfW (by omega) h3]
 ·simp -implicitDefEqProofs[jJ,-natCast_add,-natCast_mul,-natCast_emod,-natCast_ediv,-natCast_pow];rw[ZF (by omega) h3]
theorem GH(neg:Bool)(n:Nat):toZ (sg neg n) n=toZ neg n:=by
 unfold toZ sg;cases neg<;>simp;intro h;subst h;rfl
theorem ja1(na nb:Bool)(a b:List Nat)(ha:Ok a)(hl:a.length≤1099511627776)(hb:Ok b)(hm:b.length≤1099511627776):
  CallsF Tryz.prog 90 [.agg [.bool na,Ab a],.agg [.bool nb,Ab b]] (.u (.c (.d (.int .i64 (Az (toZ na (val a)) (toZ nb (val b))))))):=by
 refine Ae (T:=tb) Ad mixed Tryz.func90 rfl (by decide) (Ac rfl) rfl ?_;unfold St.init
 simp -implicitDefEqProofs[jJ,-natCast_add,-natCast_mul,-natCast_emod,-natCast_ediv,-natCast_pow];refine Af (Aj [0,1,0,7,15,31]) [.any [] [] (Ao [[2],[5],[3]]),.one,.one,.one] (by rfl) ?_
 simp -implicitDefEqProofs[jJ,-natCast_add,-natCast_mul,-natCast_emod,-natCast_ediv,-natCast_pow];refine Al (I8 na a ha hl) ?_;simp -implicitDefEqProofs[jJ,-natCast_add,-natCast_mul,-natCast_emod,-natCast_ediv,-natCast_pow,AO];refine Aa (I8 nb b hb hm) ?_;have hla:=B0 a ha;have hlb:=B0 b hb;have e1:=GH na (val a);have e2:=GH nb (val b);have c1:=R4 (limbs (val a)) (limbs (val b)) (Ap _) (by omega) (Ap _) (by omega)
 have c2:=R4 (limbs (val b)) (limbs (val a)) (Ap _) (by omega) (Ap _) (by omega)
 rw[Am,Am]at c1 c2
 have p1:sg na (val a)=true→0<val a:=fun h=>by unfold sg at h;simp at h;omega
 have p2:sg nb (val b)=true→0<val b:=fun h=>by unfold sg at h;simp at h;omega
 rw[←e1,←e2]
 simp only[AO];generalize sg na (val a)=x at*;generalize sg nb (val b)=y at*;cases x<;>cases y
 ·simp -implicitDefEqProofs[jJ,-natCast_add,-natCast_mul,-natCast_emod,-natCast_ediv,-natCast_pow,AO];refine .inl ⟨_,c1,?_⟩;simp -implicitDefEqProofs[jJ,-natCast_add,-natCast_mul,-natCast_emod,-natCast_ediv,-natCast_pow,toZ];rw[Pn]
 ·have:=p2 rfl
  simp -implicitDefEqProofs[jJ,-natCast_add,-natCast_mul,-natCast_emod,-natCast_ediv,-natCast_pow,AO,toZ];unfold Az;rw[if_neg (by omega),if_pos (by omega)]
 ·have:=p1 rfl
  simp -implicitDefEqProofs[jJ,-natCast_add,-natCast_mul,-natCast_emod,-natCast_ediv,-natCast_pow,AO,toZ];unfold Az;rw[if_pos (by omega)]
 ·simp -implicitDefEqProofs[jJ,-natCast_add,-natCast_mul,-natCast_emod,-natCast_ediv,-natCast_pow,AO];refine .inl ⟨_,c2,?_⟩;simp -implicitDefEqProofs[jJ,-natCast_add,-natCast_mul,-natCast_emod,-natCast_ediv,-natCast_pow,toZ];rw[Uv]
theorem Br{n:Nat}(h:n<18446744073709551616):(limbs n).length≤4:=(IX n).2 h
theorem PM(a b:List Nat)(ha:Ok a)(hl:a.length≤1099511627776)(hb:Ok b)(hm:b.length≤1099511627776)(h1:val a<18446744073709551616)(h2:val b<18446744073709551616):
  CallsF Tryz.prog 235 [.c (Ab a),.c (Ab b)] (.u (.c (.d (Ab (limbs (Nat.gcd (val a) (val b))))))):=by
 refine Ae (T:=tb) Ad mixed Tryz.func235 rfl (by decide) (Ac rfl) rfl ?_;unfold St.init
 simp -implicitDefEqProofs[jJ,-natCast_add,-natCast_mul,-natCast_emod,-natCast_ediv,-natCast_pow];refine Aa (Gh a ha hl) ?_;simp -implicitDefEqProofs[jJ,-natCast_add,-natCast_mul,-natCast_emod,-natCast_ediv,-natCast_pow];refine Aa (Gh b hb hm) ?_;simp -implicitDefEqProofs[jJ,-natCast_add,-natCast_mul,-natCast_emod,-natCast_ediv,-natCast_pow];have la:=B0 a ha;have lb:=B0 b hb;have u1:=Ll (limbs (val a)) (Ap _) (by omega)
 have u2:=Ll (limbs (val b)) (Ap _) (by omega)
 rw[Am]at u1 u2
 have f1:=fits64_iff.2 h1;have f2:=fits64_iff.2 h2;rw[f1]at u1;rw[f2]at u2;have k1:EP (val a)=val a:=by simp[EP,f1]
 have k2:EP (val b)=val b:=by simp[EP,f2]
 rw[k1]at u1
 rw[k2]at u2
 clear hl hm ha hb la lb k1 k2 f1 f2;generalize val a=m at*;generalize val b=n at*;refine Av (fun _:Unit=>⟨[(0,vC (.d (Ab (limbs m)))),(1,vC (.d (Ab (limbs n))))],[]⟩) (fun _=>True) (fun _=>0) () (by simp) trivial ?_
 intro _ _;by_cases h0:n=0
 ·subst h0;simp -implicitDefEqProofs[jJ,-natCast_add,-natCast_mul,-natCast_emod,-natCast_ediv,-natCast_pow,CZ]
 ·have hp:0<(limbs n).length:=limbs_pos_len.2 (by omega)
  simp -implicitDefEqProofs[jJ,-natCast_add,-natCast_mul,-natCast_emod,-natCast_ediv,-natCast_pow,hp];refine Aa u1 ?_;simp -implicitDefEqProofs[jJ,-natCast_add,-natCast_mul,-natCast_emod,-natCast_ediv,-natCast_pow];refine Aa u2 ?_;simp -implicitDefEqProofs[jJ,-natCast_add,-natCast_mul,-natCast_emod,-natCast_ediv,-natCast_pow];refine Av (fun p:Nat×Nat=>⟨[(5,vI .u64 p.1),(7,vI .u64 p.2)],[]⟩) (fun p=>Nat.gcd p.1 p.2=Nat.gcd m n∧p.1<18446744073709551616∧p.2<18446744073709551616) (fun p=>p.2) (m,n) (by simp) ⟨rfl,h1,h2⟩ ?_
  rintro⟨x,y⟩ ⟨g1,g2,g3⟩
  simp only at g1 g2 g3;by_cases hy:0<y
  ·simp -implicitDefEqProofs[jJ,-natCast_add,-natCast_mul,-natCast_emod,-natCast_ediv,-natCast_pow,hy];refine Af (Aj [0,0,0,6,3,31]) [.any [] [] (Ao [[7],[5],[7],[36,37],[35]]),.one] (by rfl) ?_
   have hy0:y≠0:=by omega
   simp -implicitDefEqProofs[jJ,-natCast_add,-natCast_mul,-natCast_emod,-natCast_ediv,-natCast_pow,hy0];refine⟨y,x%y,⟨rfl,rfl⟩,⟨?_,g3,Nat.lt_of_le_of_lt (Nat.mod_le _ _) g2⟩,Nat.mod_lt _ hy⟩;rw[Nat.gcd_comm,←Nat.gcd_rec,Nat.gcd_comm,g1]
  ·have:y=0:=by omega
   subst this;simp -implicitDefEqProofs[jJ,-natCast_add,-natCast_mul,-natCast_emod,-natCast_ediv,-natCast_pow];refine Aa (LQ x g2) ?_;simp -implicitDefEqProofs[jJ,-natCast_add,-natCast_mul,-natCast_emod,-natCast_ediv,-natCast_pow];rw[←g1,Nat.gcd_zero_right]
theorem Ja(a b:List Nat)(ha:Ok a)(hl:a.length≤1099511627776)(hb:Ok b)(hm:b.length≤1099511627776)(h1:val a<18446744073709551616)(h2:val b<18446744073709551616)(h0:val b≠0):
  CallsF Tryz.prog 95 [.c (Ab a),.c (Ab b)] (.tup [.c (.d (Ab (limbs (val a/val b)))),.c (.d (Ab (limbs (val a%val b)))),.c (.d (.int .i64 0))]):=by
 refine Ae (T:=tb) Ad mixed Tryz.func95 rfl (by decide) (Ac rfl) rfl ?_;unfold St.init
 simp -implicitDefEqProofs[jJ,-natCast_add,-natCast_mul,-natCast_emod,-natCast_ediv,-natCast_pow];refine Aa (GB a ha hl) ?_;simp -implicitDefEqProofs[jJ,-natCast_add,-natCast_mul,-natCast_emod,-natCast_ediv,-natCast_pow];refine Aa (GB b hb hm) ?_;have l1:=Br h1;have l2:=Br h2;have s1:=Tj (limbs (val a)) (Ap _) l1;have s2:=Tj (limbs (val b)) (Ap _) l2;rw[Am]at s1 s2;have hp:limbs (val b)≠[]:=fun h=>h0 (limbs_nil.1 h)
 clear hl hm ha hb;generalize val a=m at*;generalize val b=n at*;have e1:m/n%18446744073709551616=m/n:=AH (Nat.lt_of_le_of_lt (Nat.div_le_self _ _) h1);have e2:m%n<18446744073709551616:=Nat.lt_of_le_of_lt (Nat.mod_le _ _) h1;simp -implicitDefEqProofs[jJ,-natCast_add,-natCast_mul,-natCast_emod,-natCast_ediv,-natCast_pow,hp,l1,l2];refine Aa s1 ?_;simp -implicitDefEqProofs[jJ,-natCast_add,-natCast_mul,-natCast_emod,-natCast_ediv,-natCast_pow];refine Aa s2 ?_;simp -implicitDefEqProofs[jJ,-natCast_add,-natCast_mul,-natCast_emod,-natCast_ediv,-natCast_pow,h0,e1];refine Aa (JG (m/n) (by omega)) ?_
 simp -implicitDefEqProofs[jJ,-natCast_add,-natCast_mul,-natCast_emod,-natCast_ediv,-natCast_pow];refine Aa s1 ?_;simp -implicitDefEqProofs[jJ,-natCast_add,-natCast_mul,-natCast_emod,-natCast_ediv,-natCast_pow];refine Aa s2 ?_;simp -implicitDefEqProofs[jJ,-natCast_add,-natCast_mul,-natCast_emod,-natCast_ediv,-natCast_pow,h0];refine Aa (JG (m%n) e2) ?_;simp -implicitDefEqProofs[jJ,-natCast_add,-natCast_mul,-natCast_emod,-natCast_ediv,-natCast_pow]
theorem OA(a b:List Nat)(ha:Ok a)(hl:a.length≤1099511627776)(hb:Ok b)(hm:b.length≤1099511627776)(h1:val a<18446744073709551616)(h2:val b<18446744073709551616):
  CallsF Tryz.prog 94 [.c (Ab a),.c (Ab b)] (.u (.c (.d (Ab (limbs (Nat.gcd (val a) (val b))))))):=by
 refine Ae (T:=tb) Ad mixed Tryz.func94 rfl (by decide) (Ac rfl) rfl ?_;unfold St.init
 simp -implicitDefEqProofs[jJ,-natCast_add,-natCast_mul,-natCast_emod,-natCast_ediv,-natCast_pow];refine Aa (GB a ha hl) ?_;simp -implicitDefEqProofs[jJ,-natCast_add,-natCast_mul,-natCast_emod,-natCast_ediv,-natCast_pow];refine Aa (GB b hb hm) ?_;simp -implicitDefEqProofs[jJ,-natCast_add,-natCast_mul,-natCast_emod,-natCast_ediv,-natCast_pow];clear hl hm ha hb;generalize val a=m at*;generalize val b=n at*;refine Av (fun p:Nat×Nat=>⟨[(0,vC (.d (Ab (limbs p.1)))),(1,vC (.d (Ab (limbs p.2))))],[]⟩) (fun p=>Nat.gcd p.1 p.2=Nat.gcd m n∧p.1<18446744073709551616∧p.2<18446744073709551616) (fun p=>p.2) (m,n) (by simp) ⟨rfl,h1,h2⟩ ?_
 rintro⟨x,y⟩ ⟨g1,g2,g3⟩
 simp only at g1 g2 g3;by_cases h0:y=0
 ·subst h0;simp -implicitDefEqProofs[jJ,-natCast_add,-natCast_mul,-natCast_emod,-natCast_ediv,-natCast_pow,CZ];rw[←g1,Nat.gcd_zero_right]
 ·have hp:0<(limbs y).length:=limbs_pos_len.2 (by omega)
  have l1:=Br g2;have l2:=Br g3;have d:=Ja (limbs x) (limbs y) (Ap _) (by omega) (Ap _) (by omega) (by rw[Am];exact g2) (by rw[Am];exact g3) (by rw[Am];exact h0)
  rw[Am,Am]at d
  simp -implicitDefEqProofs[jJ,-natCast_add,-natCast_mul,-natCast_emod,-natCast_ediv,-natCast_pow,hp];refine Aa d ?_;simp -implicitDefEqProofs[jJ,-natCast_add,-natCast_mul,-natCast_emod,-natCast_ediv,-natCast_pow];refine⟨y,x%y,⟨rfl,rfl⟩,⟨?_,g3,Nat.lt_of_le_of_lt (Nat.mod_le _ _) g2⟩,Nat.mod_lt _ (by omega)⟩
  rw[Nat.gcd_comm,←Nat.gcd_rec,Nat.gcd_comm,g1]
end Go.Va
