/- a part of the proof -/
import Derived.Test.YtljdeoefpialhaaGreatDoorHao
set_option linter.all false
set_option maxHeartbeats 4000000
set_option maxRecDepth 10000
namespace Go.Va
open Int renaming natCast_add → qA, natCast_mul → qB, natCast_emod → qC, natCast_ediv → qD, natCast_pow → qE
open List renaming reduceReplicate → qF
open Go.Proofs
def TM:List (List Nat):=(Ah [0,1,0,4,15,0,32,0,128,480,1023,2047])
@[simp]def Py:List Seg:=[.any [] [] (Aq [[2],[5],[3],[7],[6,8],[2],[10],[3],[12],[11,13]]),.one,.one]
def sg(neg:Bool)(n:Nat):Bool:=neg&&decide (0<n)
def AU(neg:Bool)(n:Nat):List RC:=[.d (.bool (sg neg n)),.d (Ad (limbs n))]
def toZ(neg:Bool)(n:Nat):Int:=if neg then -(n:Int) else n
def Bg(neg:Bool)(n:Nat):Int:=if n=0 then 0 else if neg then -1 else 1
theorem limbs_pos_len{n:Nat}:0<(limbs n).length↔0<n:=by
 rw[List.length_pos_iff,ne_eq,limbs_nil];omega
theorem E6(neg:Bool)(a:List Nat)(ha:Ok a)(hl:a.length≤1099511627776):CallsF Tryz.prog 115 [.c (.bool neg),.c (Ad a)] (.u (.agg (AU neg (val a)))):=by
 refine cO Tryz.func115 rfl ?_;simp -implicitDefEqProofs[jJ,-qA,-qB,-qC,-qD,-qE];refine .inl ⟨_,CM a ha (by omega),?_⟩
 have hp:= @limbs_pos_len (val a)
 cases neg<;>simp -implicitDefEqProofs[jJ,-qA,-qB,-qC,-qD,-qE,AU,sg,hp]
theorem XM(neg:Bool)(a:List Nat)(ha:Ok a)(hl:a.length≤1099511627776):CallsF Tryz.prog 281 [.c (.bool neg),.c (Ad a)] (.u (.agg (AU neg (val a)))):=by
 refine cO Tryz.func281 rfl ?_;simp -implicitDefEqProofs[jJ,-qA,-qB,-qC,-qD,-qE];refine .inl ⟨_,EO a ha hl,?_⟩
 have hp:= @limbs_pos_len (val a)
 cases neg<;>simp -implicitDefEqProofs[jJ,-qA,-qB,-qC,-qD,-qE,AU,sg,hp]
theorem Hi(neg:Bool)(n:Nat):CallsF Tryz.prog 227 [.c (.bool neg),.c (Ad (limbs n))] (.u (.agg (AU neg n))):=by
 refine cO Tryz.func227 rfl ?_;have hp:= @limbs_pos_len n;cases neg<;>simp -implicitDefEqProofs[jJ,-qA,-qB,-qC,-qD,-qE,AU,sg,hp]
theorem IS(neg:Bool)(a:List Nat)(ha:Ok a)(hl:a.length≤1099511627776):CallsF Tryz.prog 184 [.agg [.bool neg,Ad a]] (.u (.agg (AU neg (val a)))):=by
 refine cO Tryz.func184 rfl ?_;simp -implicitDefEqProofs[jJ,-qA,-qB,-qC,-qD,-qE];refine .inl ⟨_,E6 neg a ha hl,?_⟩
 simp -implicitDefEqProofs[jJ,-qA,-qB,-qC,-qD,-qE,AU]
theorem QB(neg:Bool)(a:List Nat)(ha:Ok a)(hl:a.length≤1099511627776):CallsF Tryz.prog 236 [.agg [.bool neg,Ad a]] (.u (.agg (AU neg (val a)))):=by
 refine cO Tryz.func236 rfl ?_;simp -implicitDefEqProofs[jJ,-qA,-qB,-qC,-qD,-qE];refine .inl ⟨_,XM neg a ha hl,?_⟩
 simp -implicitDefEqProofs[jJ,-qA,-qB,-qC,-qD,-qE,AU]
theorem Tw(neg:Bool)(a:List Nat)(ha:Ok a)(hl:a.length≤1099511627776):CallsF Tryz.prog 113 [.agg [.bool neg,Ad a]] (.u (.agg (AU (!neg) (val a)))):=by
 refine cO Tryz.func113 rfl ?_;simp -implicitDefEqProofs[jJ,-qA,-qB,-qC,-qD,-qE];refine .inl ⟨_,E6 (!neg) a ha hl,?_⟩
 simp -implicitDefEqProofs[jJ,-qA,-qB,-qC,-qD,-qE,AU]
theorem US(neg:Bool)(a:List Nat)(ha:Ok a)(hl:a.length≤1099511627776):CallsF Tryz.prog 112 [.agg [.bool neg,Ad a]] (.u (.c (.d (.int .i64 (Bg neg (val a)))))):=by
 refine cO Tryz.func112 rfl ?_;simp -implicitDefEqProofs[jJ,-qA,-qB,-qC,-qD,-qE];refine .inl ⟨_,IS neg a ha hl,?_⟩
 have hp:=SG (val a);simp -implicitDefEqProofs[jJ,-qA,-qB,-qC,-qD,-qE,AU,hp];by_cases h0:val a=0
 ·simp[h0,Bg]
 ·cases neg<;>simp[h0,Bg,sg]<;>omega
theorem F2(na nb:Bool)(a b:List Nat)(ha:Ok a)(hl:a.length≤274877906944)(hb:Ok b)(hm:b.length≤274877906944):
  CallsF Tryz.prog 145 [.agg [.bool na,Ad a],.agg [.bool nb,Ad b]] (.u (.agg (AU (!decide (na=nb)) (val a*val b)))):=by
 refine cO Tryz.func145 rfl ?_;simp -implicitDefEqProofs[jJ,-qA,-qB,-qC,-qD,-qE];refine AA TM Py (by rfl) ?_
 simp -implicitDefEqProofs[jJ,-qA,-qB,-qC,-qD,-qE];refine⟨_,Mj a b ha hl hb hm,?_⟩;simp -implicitDefEqProofs[jJ,-qA,-qB,-qC,-qD,-qE];refine .inl ⟨_,Hi _ _,?_⟩;simp -implicitDefEqProofs[jJ,-qA,-qB,-qC,-qD,-qE,AU]
theorem EM(na nb:Bool)(a b:List Nat)(ha:Ok a)(hl:a.length≤274877906944)(hb:Ok b)(hm:b.length≤274877906944)(hv:(limbs (val a*val b)).length≤1099511627776):
  CallsF Tryz.prog 182 [.agg [.bool na,Ad a],.agg [.bool nb,Ad b]] (.u (.agg (AU (!decide (na=nb)) (val a*val b)))):=by
 refine cO Tryz.func182 rfl ?_;simp -implicitDefEqProofs[jJ,-qA,-qB,-qC,-qD,-qE];refine AA TM Py (by rfl) ?_
 simp -implicitDefEqProofs[jJ,-qA,-qB,-qC,-qD,-qE];refine⟨_,MN a b ha hl hb hm,?_⟩;simp -implicitDefEqProofs[jJ,-qA,-qB,-qC,-qD,-qE];have h:=E6 (!decide (na=nb)) (limbs (val a*val b)) (Aw _) hv;rw[Az]at h;refine .inl ⟨_,h,?_⟩;simp -implicitDefEqProofs[jJ,-qA,-qB,-qC,-qD,-qE,AU]
theorem HX(n:Nat)(hn:n<9223372036854775808):CallsF Tryz.prog 156 [.c (.int .i64 n)] (.u (.agg (AU false n))):=by
 refine cO Tryz.func156 rfl ?_;simp -implicitDefEqProofs[jJ,-qA,-qB,-qC,-qD,-qE];rw[AX (by omega)]
 refine .inl ⟨_,IA n (by omega),?_⟩
 simp -implicitDefEqProofs[jJ,-qA,-qB,-qC,-qD,-qE];refine .inl ⟨_,Hi _ _,?_⟩;simp -implicitDefEqProofs[jJ,-qA,-qB,-qC,-qD,-qE,AU]
theorem Nk(n:Nat)(hn:n<9223372036854775808):CallsF Tryz.prog 47 [.c (.int .i64 n)] (.u (.agg (AU false n))):=by
 refine cO Tryz.func47 rfl ?_;simp -implicitDefEqProofs[jJ,-qA,-qB,-qC,-qD,-qE];rw[AX (by omega)]
 refine .inl ⟨_,C6 n (by omega),?_⟩
 simp -implicitDefEqProofs[jJ,-qA,-qB,-qC,-qD,-qE];have h:=E6 false (limbs n) (Aw _) (by have:=(GE n).2 (by omega);omega)
 rw[Az]at h
 refine .inl ⟨_,h,?_⟩;simp -implicitDefEqProofs[jJ,-qA,-qB,-qC,-qD,-qE,AU]
theorem Ta(neg:Bool)(a:List Nat)(hl:a.length≤140737488355328):CallsF Tryz.prog 165 [.agg [.bool neg,Ad a]] (.u (.c (.d (.bool (lastOk a&& !(neg&&decide (a=[]))))))):=by
 refine cO Tryz.func165 rfl ?_;simp -implicitDefEqProofs[jJ,-qA,-qB,-qC,-qD,-qE];refine .inl ⟨_,KZ a (by omega),?_⟩
 generalize lastOk a=d;cases d<;>cases neg<;>simp -implicitDefEqProofs[jJ,-qA,-qB,-qC,-qD,-qE]
theorem jbv(neg:Bool)(a:List Nat)(hl:a.length≤1099511627776):CallsF Tryz.prog 148 [.agg [.bool neg,Ad a]] (.u (.c (.d (.bool (lastOk a&& !(neg&&decide (a=[]))))))):=by
 refine cO Tryz.func148 rfl ?_;rcases Nat.eq_zero_or_pos a.length with h0|h0
 ·have:a=[]:=jzv.1 h0
  subst this;cases neg<;>simp -implicitDefEqProofs[jJ,-qA,-qB,-qC,-qD,-qE,lastOk]
 ·obtain⟨n,hn⟩: ∃n,a.length=n+1:=⟨a.length - 1,by omega⟩
  have hne:a≠[]:=fun h=>by rw[h]at hn;simp at hn
  obtain⟨x,hx⟩:=EI (a:=a) (n:=n) (by omega)
  have hg:a.getLast? =some x:=by rw[List.getLast?_eq_getElem?,hn];simpa using hx
  cases neg<;>simp -implicitDefEqProofs[jJ,-qA,-qB,-qC,-qD,-qE,u16,hn,hx,hg,hne,lastOk]
  all_goals
   have e:a[n]'(by omega)=x:=by
    have:=AD (l:=a) (i:=n) (by omega)
    rw[hx]at this
    exact(Bi this).symm
   rw[e]
   exact⟨by omega,Iff.rfl⟩
def t8(b:Nat):Nat:=if b=0 then 0 else Nat.log2 b+1
def lenTab:ByteArray:=⟨#[0,1,2,2,3,3,3,3,4,4,4,4,4,4,4,4,5,5,5,5,5,5,5,5,5,5,5,5,5,5,5,5,6,6,6,6,6,6,6,6,6,6,6,6,6,6,6,6,6,6,6,6,6,6,6,6,6,6,6,6,6,6,6,6,7,7,7,7,7,7,7,7,7,7,7,7,7,7,7,7,7,7,7,7,7,7,7,7,7,7,7,7,7,7,7,7,7,7,7,7,7,7,7,7,7,7,7,7,7,7,7,7,7,7,7,7,7,7,7,7,7,7,7,7,7,7,7,7,8,8,8,8,8,8,8,8,8,8,8,8,8,8,8,8,8,8,8,8,8,8,8,8,8,8,8,8,8,8,8,8,8,8,8,8,8,8,8,8,8,8,8,8,8,8,8,8,8,8,8,8,8,8,8,8,8,8,8,8,8,8,8,8,8,8,8,8,8,8,8,8,8,8,8,8,8,8,8,8,8,8,8,8,8,8,8,8,8,8,8,8,8,8,8,8,8,8,8,8,8,8,8,8,8,8,8,8,8,8,8,8,8,8,8,8,8,8,8,8,8,8,8,8,8,8,8,8]⟩
theorem P5: ∀b<256,lenTab[b]? =some (UInt8.ofNat (t8 b)):=by decide
theorem Kt: ∀b,b<256→t8 b<256:=by decide
def len16(x:Nat):Nat:=if x<256 then t8 x else 8+t8 (x/256)
theorem RW(x:Nat)(hx:x<65536):CallsF Tryz.prog 272 [.c (.int .u16 x)] (.u (.c (.d (.int .i64 (len16 x))))):=by
 unfold len16;refine cO Tryz.func272 rfl ?_;have hs:lenTab.size=256:=rfl;by_cases h:x<256
 ·have h': ¬256≤x:=by omega
  have hg:=P5 x h;simp -implicitDefEqProofs[jJ,-qA,-qB,-qC,-qD,-qE,h,h'];refine⟨by change _<lenTab.size;omega,?_⟩
  change AI (lenTab[x%256]?) _
  rw[AX h,hg]
  have hk:t8 x<256:=Kt x h;simp -implicitDefEqProofs[jJ,-qA,-qB,-qC,-qD,-qE,hk];rw[AX hk,wrap_i64 (by omega)]
  omega
 ·have h':256≤x:=by omega
  have hg:=P5 (x/256) (by omega)
  simp -implicitDefEqProofs[jJ,-qA,-qB,-qC,-qD,-qE,h,h'];refine⟨by change _<lenTab.size;omega,?_⟩
  change AI (lenTab[x/256%256]?) _
  rw[AX (show x/256<256 by omega),hg]
  have hk:t8 (x/256)<256:=Kt (x/256) (by omega)
  simp -implicitDefEqProofs[jJ,-qA,-qB,-qC,-qD,-qE,hk];rw[AX hk,wrap_i64 (by omega)]
  omega
theorem Wl{b:Nat}(h:0<b):0<t8 b:=by unfold t8;split<;>omega
theorem jbj{x:Nat}(h:0<x):0<len16 x:=by
 unfold len16;split
 ·exact Wl h
 ·omega
theorem Zw{x:Nat}(h:x<65536):len16 x≤300:=by
 unfold len16;split
 ·have:=Kt x (by omega);omega
 ·have:=Kt (x/256) (by omega);omega
theorem J9{n:Nat}(h:n≠0): ∃x,(limbs n)[(limbs n).length - 1]? =some x∧0<x∧x<65536:=by
 induction n using Nat.strongRecOn with
 |_ n ih=>
  rw[EF h]
  by_cases h0:n/65536=0
  ·rw[h0,Cm]
   exact⟨n%65536,rfl,by omega,by omega⟩
  ·obtain⟨x,h1,h2⟩:=ih (n/65536) (by omega) h0
   have hl:(limbs (n/65536)).length≠0:=fun h=>h0 ((SG _).1 h)
   refine⟨x,?_,h2⟩
   rw[show(n%65536::limbs (n/65536)).length - 1=(limbs (n/65536)).length - 1+1 by simp;omega]
   simpa using h1
def FN(n:Nat):Nat:=if n=0 then 0 else 16*((limbs n).length - 1)+len16 ((limbs n).getD ((limbs n).length - 1) 0)
theorem Oy(n:Nat):FN n=0↔n=0:=by
 unfold FN;split
 ·simp[*]
 ·rename_i h
  obtain⟨x,h1,h2,_⟩:=J9 h
  rw[AL,h1]
  have:=jbj h2
  simp only[Option.getD_some];omega
theorem RH(a:List Nat)(ha:Ok a)(hl:a.length≤1099511627776):CallsF Tryz.prog 224 [.c (Ad a)] (.u (.c (.d (.int .i64 (FN (val a)))))):=by
 refine cO Tryz.func224 rfl ?_;simp -implicitDefEqProofs[jJ,-qA,-qB,-qC,-qD,-qE];refine .inl ⟨_,B2 a ha hl,?_⟩
 have hla:=Bu a ha;by_cases h0:val a=0
 ·simp -implicitDefEqProofs[jJ,-qA,-qB,-qC,-qD,-qE,h0,Cm,FN]
 ·obtain⟨x,h1,h2,h3⟩:=J9 h0
  have hne:limbs (val a)≠[]:=fun h=>h0 (limbs_nil.1 h)
  obtain⟨n,hn⟩: ∃n,(limbs (val a)).length=n+1:=⟨(limbs (val a)).length - 1,by have:=List.length_pos_iff.2 hne;omega⟩
  have hb:FN (val a)=16*n+len16 x:=by
   unfold FN;rw[if_neg h0,AL,h1,hn];rfl
  rw[hb]
  rw[hn]at h1
  simp only[Nat.add_sub_cancel]at h1;clear hb;generalize limbs (val a)=y at*;have e:y[n]'(by omega)=x:=by
   have:=AD (l:=y) (i:=n) (by omega)
   rw[h1]at this
   exact(Bi this).symm
  simp -implicitDefEqProofs[jJ,-qA,-qB,-qC,-qD,-qE,hne,hn,h1,u16,e];refine⟨by omega,by omega,by omega,.inl ⟨_,RW x h3,?_⟩⟩
  have:=Zw h3
  simp -implicitDefEqProofs[jJ,-qA,-qB,-qC,-qD,-qE];omega
theorem HS(neg:Bool)(a:List Nat)(ha:Ok a)(hl:a.length≤1099511627776):CallsF Tryz.prog 195 [.agg [.bool neg,Ad a]] (.u (.c (.d (.int .i64 (Bg neg (val a)))))):=by
 refine cO Tryz.func195 rfl ?_;simp -implicitDefEqProofs[jJ,-qA,-qB,-qC,-qD,-qE];refine .inl ⟨_,RH a ha hl,?_⟩
 have hz:=Oy (val a);by_cases h0:val a=0
 ·have hb:=hz.2 h0;simp -implicitDefEqProofs[jJ,-qA,-qB,-qC,-qD,-qE,hb,Bg];simp[h0]
 ·have:FN (val a)≠0:=fun h=>h0 (hz.1 h)
  cases neg<;>simp -implicitDefEqProofs[jJ,-qA,-qB,-qC,-qD,-qE,h0,this,Bg]
theorem R2(a b:List Nat)(ha:Ok a)(hl:a.length≤1099511627776)(hb:Ok b)(hm:b.length≤1099511627776):CallsF Tryz.prog 225 [.c (Ad a),.c (Ad b)] (.u (.c (.d (.int .i64 (cmp3 (val a) (val b)))))):=by
 refine cO Tryz.func225 rfl ?_;simp -implicitDefEqProofs[jJ,-qA,-qB,-qC,-qD,-qE];refine .inl ⟨_,Jr a b ha hl hb hm,?_⟩
 simp -implicitDefEqProofs[jJ,-qA,-qB,-qC,-qD,-qE]
theorem RT(m n:Nat):cmpZ (m:Int) (n:Int)=cmp3 m n:=by
 unfold cmpZ cmp3;by_cases h1:m<n
 ·rw[if_pos (by omega),if_pos h1]
 ·rw[if_neg (by omega),if_neg h1]
  by_cases h2:n<m
  ·rw[if_pos (by omega),if_pos h2]
  ·rw[if_neg (by omega),if_neg h2]
theorem Te(m n:Nat):cmpZ (-(m:Int)) (-(n:Int))=cmp3 n m:=by
 unfold cmpZ cmp3;by_cases h1:n<m
 ·rw[if_pos (by omega),if_pos h1]
 ·rw[if_neg (by omega),if_neg h1]
  by_cases h2:m<n
  ·rw[if_pos (by omega),if_pos h2]
  ·rw[if_neg (by omega),if_neg h2]
theorem OE{na nb:Bool}{m n:Nat}(h:Bg na m<Bg nb n):cmpZ (toZ na m) (toZ nb n)= -1:=by
 unfold Bg at h;unfold cmpZ toZ;cases na<;>cases nb<;>(repeat' split at h)<;>simp_all<;>omega
theorem O9{na nb:Bool}{m n:Nat}(h:Bg nb n<Bg na m):cmpZ (toZ na m) (toZ nb n)=1:=by
 unfold Bg at h;unfold cmpZ toZ;cases na<;>cases nb<;>(repeat' split at h)<;>simp_all<;>omega
theorem YZ{na nb:Bool}{m n:Nat}(h:Bg na m=Bg nb n)(h0:Bg na m<0):cmpZ (toZ na m) (toZ nb n)=cmp3 n m:=by
 have e1:na=true:=by
  unfold Bg at h0;cases na<;>(repeat' split at h0)<;>simp_all
 have e2:nb=true:=by
  rw[h]at h0
  unfold Bg at h0;cases nb<;>(repeat' split at h0)<;>simp_all
 subst e1;subst e2;exact Te m n
theorem jjy{na nb:Bool}{m n:Nat}(h:Bg na m=Bg nb n)(h0:0≤Bg na m):cmpZ (toZ na m) (toZ nb n)=cmp3 m n:=by
 have e1:toZ na m=(m:Int):=by
  unfold Bg at h0;unfold toZ;cases na<;>(repeat' split at h0)<;>simp_all
 have e2:toZ nb n=(n:Int):=by
  rw[h]at h0
  unfold Bg at h0;unfold toZ;cases nb<;>(repeat' split at h0)<;>simp_all
 rw[e1,e2,RT]
theorem YH(na nb:Bool)(a b:List Nat)(ha:Ok a)(hl:a.length≤1099511627776)(hb:Ok b)(hm:b.length≤1099511627776):
  CallsF Tryz.prog 144 [.agg [.bool na,Ad a],.agg [.bool nb,Ad b]] (.u (.c (.d (.int .i64 (cmpZ (toZ na (val a)) (toZ nb (val b))))))):=by
 refine cO Tryz.func144 rfl ?_;simp -implicitDefEqProofs[jJ,-qA,-qB,-qC,-qD,-qE];refine AA (Ah [0,1,0,7,15,31]) [.any [] [] (Aq [[2],[8],[3]]),.one,.one,.one] (by rfl) ?_
 simp -implicitDefEqProofs[jJ,-qA,-qB,-qC,-qD,-qE];refine Ae (HS na a ha hl) ?_;simp -implicitDefEqProofs[jJ,-qA,-qB,-qC,-qD,-qE];refine Ac (HS nb b hb hm) ?_;simp -implicitDefEqProofs[jJ,-qA,-qB,-qC,-qD,-qE];refine⟨fun h=>by rw[OE h],fun h=>⟨fun h2=>by rw[O9 h2],fun h2=>⟨fun h3=> .inl ⟨_,R2 b a hb hm ha hl,?_⟩,fun h3=> .inl ⟨_,R2 a b ha hl hb hm,?_⟩⟩⟩⟩
 ·simp -implicitDefEqProofs[jJ,-qA,-qB,-qC,-qD,-qE];rw[YZ (by omega) h3]
 ·simp -implicitDefEqProofs[jJ,-qA,-qB,-qC,-qD,-qE];rw[jjy (by omega) h3]
theorem FR(neg:Bool)(n:Nat):toZ (sg neg n) n=toZ neg n:=by
 unfold toZ sg;cases neg<;>simp;intro h;subst h;rfl
theorem Od(na nb:Bool)(a b:List Nat)(ha:Ok a)(hl:a.length≤1099511627776)(hb:Ok b)(hm:b.length≤1099511627776):
  CallsF Tryz.prog 181 [.agg [.bool na,Ad a],.agg [.bool nb,Ad b]] (.u (.c (.d (.int .i64 (cmpZ (toZ na (val a)) (toZ nb (val b))))))):=by
 refine cO Tryz.func181 rfl ?_;simp -implicitDefEqProofs[jJ,-qA,-qB,-qC,-qD,-qE];refine AA (Ah [0,1,0,7,15,31]) [.any [] [] (Aq [[2],[5],[3]]),.one,.one,.one] (by rfl) ?_
 simp -implicitDefEqProofs[jJ,-qA,-qB,-qC,-qD,-qE];refine Ae (IS na a ha hl) ?_;simp -implicitDefEqProofs[jJ,-qA,-qB,-qC,-qD,-qE,AU];refine Ac (IS nb b hb hm) ?_;have hla:=Bu a ha;have hlb:=Bu b hb;have e1:=FR na (val a);have e2:=FR nb (val b);have c1:=Iq (limbs (val a)) (limbs (val b)) (Aw _) (by omega) (Aw _) (by omega)
 have c2:=Iq (limbs (val b)) (limbs (val a)) (Aw _) (by omega) (Aw _) (by omega)
 rw[Az,Az]at c1 c2
 have p1:sg na (val a)=true→0<val a:=fun h=>by unfold sg at h;simp at h;omega
 have p2:sg nb (val b)=true→0<val b:=fun h=>by unfold sg at h;simp at h;omega
 rw[←e1,←e2]
 simp only[AU];generalize sg na (val a)=x at*;generalize sg nb (val b)=y at*;cases x<;>cases y
 ·simp -implicitDefEqProofs[jJ,-qA,-qB,-qC,-qD,-qE,AU];refine .inl ⟨_,c1,?_⟩;simp -implicitDefEqProofs[jJ,-qA,-qB,-qC,-qD,-qE,toZ];rw[RT]
 ·have:=p2 rfl
  simp -implicitDefEqProofs[jJ,-qA,-qB,-qC,-qD,-qE,AU,toZ];unfold cmpZ;rw[if_neg (by omega),if_pos (by omega)]
 ·have:=p1 rfl
  simp -implicitDefEqProofs[jJ,-qA,-qB,-qC,-qD,-qE,AU,toZ];unfold cmpZ;rw[if_pos (by omega)]
 ·simp -implicitDefEqProofs[jJ,-qA,-qB,-qC,-qD,-qE,AU];refine .inl ⟨_,c2,?_⟩;simp -implicitDefEqProofs[jJ,-qA,-qB,-qC,-qD,-qE,toZ];rw[Te]
theorem IK{n:Nat}(h:n<18446744073709551616):(limbs n).length≤4:=(GE n).2 h
theorem QK:65536^8=340282366920938463463374607431768211456:=by simp
theorem BP{n:Nat}(h:n<340282366920938463463374607431768211456):(limbs n).length≤8:=Ew n 8 (by rw[QK];exact h)
theorem Cp(a b:List Nat)(ha:Ok a)(hb:Ok b):(limbs (val a*val b)).length≤a.length+b.length:=by
 apply Ew
 rw[Nat.pow_add]
 exact Nat.mul_lt_mul'' (Bz a ha) (Bz b hb)
theorem jac(a b:List Nat)(ha:Ok a)(hl:a.length≤70368744177664)(hb:Ok b)(hm:b.length≤70368744177664)(h1:val a<18446744073709551616)(h2:val b<18446744073709551616)(h0:val b≠0):
  CallsF Tryz.prog 186 [.c (Ad a),.c (Ad b)] (.tup [.c (.d (Ad (limbs (val a/val b)))),.c (.d (Ad (limbs (val a%val b)))),.c (.d (.int .i64 0))]):=by
 refine cO Tryz.func186 rfl ?_;simp -implicitDefEqProofs[jJ,-qA,-qB,-qC,-qD,-qE];refine Ac (CM a ha (by omega)) ?_
 simp -implicitDefEqProofs[jJ,-qA,-qB,-qC,-qD,-qE];refine Ac (CM b hb (by omega)) ?_
 have l1:=IK h1;have l2:=IK h2;have s1:=OX (limbs (val a)) (Aw _) l1;have s2:=OX (limbs (val b)) (Aw _) l2;rw[Az]at s1 s2;have hp:limbs (val b)≠[]:=fun h=>h0 (limbs_nil.1 h)
 clear hl hm ha hb;generalize val a=m at*;generalize val b=n at*;have e1:m/n%18446744073709551616=m/n:=AX (Nat.lt_of_le_of_lt (Nat.div_le_self _ _) h1);have e2:m%n<18446744073709551616:=Nat.lt_of_le_of_lt (Nat.mod_le _ _) h1;simp -implicitDefEqProofs[jJ,-qA,-qB,-qC,-qD,-qE,hp,l1,l2];refine Ac s1 ?_;simp -implicitDefEqProofs[jJ,-qA,-qB,-qC,-qD,-qE];refine Ac s2 ?_;simp -implicitDefEqProofs[jJ,-qA,-qB,-qC,-qD,-qE,h0,e1];refine Ac (C6 (m/n) (by omega)) ?_
 simp -implicitDefEqProofs[jJ,-qA,-qB,-qC,-qD,-qE];refine Ac s1 ?_;simp -implicitDefEqProofs[jJ,-qA,-qB,-qC,-qD,-qE];refine Ac s2 ?_;simp -implicitDefEqProofs[jJ,-qA,-qB,-qC,-qD,-qE,h0];refine Ac (C6 (m%n) e2) ?_;simp -implicitDefEqProofs[jJ,-qA,-qB,-qC,-qD,-qE]
end Go.Va
