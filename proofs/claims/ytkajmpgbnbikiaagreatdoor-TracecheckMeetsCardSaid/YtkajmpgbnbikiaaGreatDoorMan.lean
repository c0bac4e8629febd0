/- a part of the proof -/
import Derived.Test.YtkajmpgbnbikiaaGreatDoorMam
set_option linter.all false
set_option maxHeartbeats 4000000
set_option maxRecDepth 10000
namespace Go.Va
open Int (natCast_add natCast_mul natCast_emod natCast_ediv natCast_pow)
open Go.Proofs
def TP:List (List Nat):=(Ad [0,1,0,4,15,0,32,0,128,480,1023,2047])
@[simp]def UM:List Seg:=[.any [] [] (Ap [[2],[5],[3],[7],[6,8],[2],[10],[3],[12],[11,13]]),.one,.one]
def sg(neg:Bool)(n:Nat):Bool:=neg&&decide (0<n)
def AO(neg:Bool)(n:Nat):List RC:=[.d (.bool (sg neg n)),.d (Ac (limbs n))]
def toZ(neg:Bool)(n:Nat):Int:=if neg then -(n:Int) else n
def AQ(neg:Bool)(n:Nat):Int:=if n=0 then 0 else if neg then -1 else 1
theorem limbs_pos_len{n:Nat}:0<(limbs n).length↔0<n:=by
 rw[List.length_pos_iff,ne_eq,limbs_nil];omega
theorem Hu(neg:Bool)(a:List Nat)(ha:Ok a)(hl:a.length≤1099511627776):CallsF Tryz.prog 150 [.c (.bool neg),.c (Ac a)] (.u (.agg (AO neg (val a)))):=by
 refine Ak (T:=tb) Ah mixed Tryz.func150 rfl (by decide) (Af rfl) rfl ?_;unfold St.init
 simp -implicitDefEqProofs[jJ,-natCast_add,-natCast_mul,-natCast_emod,-natCast_ediv,-natCast_pow];refine .inl ⟨_,B6 a ha hl,?_⟩;have hp:= @limbs_pos_len (val a);cases neg<;>simp -implicitDefEqProofs[jJ,-natCast_add,-natCast_mul,-natCast_emod,-natCast_ediv,-natCast_pow,AO,sg,hp]
theorem Yp(neg:Bool)(a:List Nat)(ha:Ok a)(hl:a.length≤1099511627776):CallsF Tryz.prog 344 [.c (.bool neg),.c (Ac a)] (.u (.agg (AO neg (val a)))):=by
 refine Ak (T:=tb) Ah mixed Tryz.func344 rfl (by decide) (Af rfl) rfl ?_;unfold St.init
 simp -implicitDefEqProofs[jJ,-natCast_add,-natCast_mul,-natCast_emod,-natCast_ediv,-natCast_pow];refine .inl ⟨_,DE a ha hl,?_⟩;have hp:= @limbs_pos_len (val a);cases neg<;>simp -implicitDefEqProofs[jJ,-natCast_add,-natCast_mul,-natCast_emod,-natCast_ediv,-natCast_pow,AO,sg,hp]
theorem Ig(neg:Bool)(n:Nat):CallsF Tryz.prog 280 [.c (.bool neg),.c (Ac (limbs n))] (.u (.agg (AO neg n))):=by
 refine Ak (T:=tb) Ah mixed Tryz.func280 rfl (by decide) (Af rfl) rfl ?_;unfold St.init
 have hp:= @limbs_pos_len n
 cases neg<;>simp -implicitDefEqProofs[jJ,-natCast_add,-natCast_mul,-natCast_emod,-natCast_ediv,-natCast_pow,AO,sg,hp]
theorem GW(neg:Bool)(a:List Nat)(ha:Ok a)(hl:a.length≤1099511627776):CallsF Tryz.prog 226 [.agg [.bool neg,Ac a]] (.u (.agg (AO neg (val a)))):=by
 refine Ak (T:=tb) Ah mixed Tryz.func226 rfl (by decide) (Af rfl) rfl ?_;unfold St.init
 simp -implicitDefEqProofs[jJ,-natCast_add,-natCast_mul,-natCast_emod,-natCast_ediv,-natCast_pow];refine .inl ⟨_,Hu neg a ha hl,?_⟩;simp -implicitDefEqProofs[jJ,-natCast_add,-natCast_mul,-natCast_emod,-natCast_ediv,-natCast_pow,AO]
theorem NW(neg:Bool)(a:List Nat)(ha:Ok a)(hl:a.length≤1099511627776):CallsF Tryz.prog 310 [.agg [.bool neg,Ac a]] (.u (.agg (AO neg (val a)))):=by
 refine Ak (T:=tb) Ah mixed Tryz.func310 rfl (by decide) (Af rfl) rfl ?_;unfold St.init
 simp -implicitDefEqProofs[jJ,-natCast_add,-natCast_mul,-natCast_emod,-natCast_ediv,-natCast_pow];refine .inl ⟨_,Yp neg a ha hl,?_⟩;simp -implicitDefEqProofs[jJ,-natCast_add,-natCast_mul,-natCast_emod,-natCast_ediv,-natCast_pow,AO]
theorem ZC(neg:Bool)(a:List Nat)(ha:Ok a)(hl:a.length≤1099511627776):CallsF Tryz.prog 149 [.agg [.bool neg,Ac a]] (.u (.agg (AO (!neg) (val a)))):=by
 refine Ak (T:=tb) Ah mixed Tryz.func149 rfl (by decide) (Af rfl) rfl ?_;unfold St.init
 simp -implicitDefEqProofs[jJ,-natCast_add,-natCast_mul,-natCast_emod,-natCast_ediv,-natCast_pow];refine .inl ⟨_,Hu (!neg) a ha hl,?_⟩;simp -implicitDefEqProofs[jJ,-natCast_add,-natCast_mul,-natCast_emod,-natCast_ediv,-natCast_pow,AO]
theorem jaK(neg:Bool)(a:List Nat)(ha:Ok a)(hl:a.length≤1099511627776):CallsF Tryz.prog 140 [.agg [.bool neg,Ac a]] (.u (.c (.d (.int .i64 (AQ neg (val a)))))):=by
 refine Ak (T:=tb) Ah mixed Tryz.func140 rfl (by decide) (Af rfl) rfl ?_;unfold St.init
 simp -implicitDefEqProofs[jJ,-natCast_add,-natCast_mul,-natCast_emod,-natCast_ediv,-natCast_pow];refine .inl ⟨_,GW neg a ha hl,?_⟩;have hp:=SK (val a);simp -implicitDefEqProofs[jJ,-natCast_add,-natCast_mul,-natCast_emod,-natCast_ediv,-natCast_pow,AO,hp];by_cases h0:val a=0
 ·simp[h0,AQ]
 ·cases neg<;>simp[h0,AQ,sg]<;>omega
theorem Gq(na nb:Bool)(a b:List Nat)(ha:Ok a)(hl:a.length≤274877906944)(hb:Ok b)(hm:b.length≤274877906944):
  CallsF Tryz.prog 205 [.agg [.bool na,Ac a],.agg [.bool nb,Ac b]] (.u (.agg (AO (!decide (na=nb)) (val a*val b)))):=by
 refine Ak (T:=tb) Ah mixed Tryz.func205 rfl (by decide) (Af rfl) rfl ?_;unfold St.init
 simp -implicitDefEqProofs[jJ,-natCast_add,-natCast_mul,-natCast_emod,-natCast_ediv,-natCast_pow];refine At TP UM (by rfl) ?_
 simp -implicitDefEqProofs[jJ,-natCast_add,-natCast_mul,-natCast_emod,-natCast_ediv,-natCast_pow];refine⟨_,Mw a b ha hl hb hm,?_⟩;simp -implicitDefEqProofs[jJ,-natCast_add,-natCast_mul,-natCast_emod,-natCast_ediv,-natCast_pow];refine .inl ⟨_,Ig _ _,?_⟩;simp -implicitDefEqProofs[jJ,-natCast_add,-natCast_mul,-natCast_emod,-natCast_ediv,-natCast_pow,AO]
theorem IK(na nb:Bool)(a b:List Nat)(ha:Ok a)(hl:a.length≤274877906944)(hb:Ok b)(hm:b.length≤274877906944)(hv:(limbs (val a*val b)).length≤1099511627776):
  CallsF Tryz.prog 224 [.agg [.bool na,Ac a],.agg [.bool nb,Ac b]] (.u (.agg (AO (!decide (na=nb)) (val a*val b)))):=by
 refine Ak (T:=tb) Ah mixed Tryz.func224 rfl (by decide) (Af rfl) rfl ?_;unfold St.init
 simp -implicitDefEqProofs[jJ,-natCast_add,-natCast_mul,-natCast_emod,-natCast_ediv,-natCast_pow];refine At TP UM (by rfl) ?_
 simp -implicitDefEqProofs[jJ,-natCast_add,-natCast_mul,-natCast_emod,-natCast_ediv,-natCast_pow];refine⟨_,ID a b ha hl hb hm,?_⟩;simp -implicitDefEqProofs[jJ,-natCast_add,-natCast_mul,-natCast_emod,-natCast_ediv,-natCast_pow];have h:=Hu (!decide (na=nb)) (limbs (val a*val b)) (An _) hv;rw[Ao]at h;refine .inl ⟨_,h,?_⟩;simp -implicitDefEqProofs[jJ,-natCast_add,-natCast_mul,-natCast_emod,-natCast_ediv,-natCast_pow,AO]
theorem Rv(n:Nat)(hn:n<9223372036854775808):CallsF Tryz.prog 201 [.c (.int .i64 n)] (.u (.agg (AO false n))):=by
 refine Ak (T:=tb) Ah mixed Tryz.func201 rfl (by decide) (Af rfl) rfl ?_;unfold St.init
 simp -implicitDefEqProofs[jJ,-natCast_add,-natCast_mul,-natCast_emod,-natCast_ediv,-natCast_pow];rw[AI (by omega)]
 refine .inl ⟨_,Hw n (by omega),?_⟩
 simp -implicitDefEqProofs[jJ,-natCast_add,-natCast_mul,-natCast_emod,-natCast_ediv,-natCast_pow];refine .inl ⟨_,Ig _ _,?_⟩;simp -implicitDefEqProofs[jJ,-natCast_add,-natCast_mul,-natCast_emod,-natCast_ediv,-natCast_pow,AO]
theorem Zk(neg:Bool)(a:List Nat)(hl:a.length≤1099511627776):CallsF Tryz.prog 102 [.agg [.bool neg,Ac a]] (.u (.c (.d (.bool (lastOk a&& !(neg&&decide (a=[]))))))):=by
 refine Ak (T:=tb) Ah mixed Tryz.func102 rfl (by decide) (Af rfl) rfl ?_;unfold St.init
 simp -implicitDefEqProofs[jJ,-natCast_add,-natCast_mul,-natCast_emod,-natCast_ediv,-natCast_pow];refine .inl ⟨_,Ra a hl,?_⟩;generalize lastOk a=d;cases d<;>cases neg<;>simp -implicitDefEqProofs[jJ,-natCast_add,-natCast_mul,-natCast_emod,-natCast_ediv,-natCast_pow]
theorem jgY(neg:Bool)(a:List Nat)(hl:a.length≤1099511627776):CallsF Tryz.prog 160 [.agg [.bool neg,Ac a]] (.u (.c (.d (.bool (lastOk a&& !(neg&&decide (a=[]))))))):=by
 refine Ak (T:=tb) Ah mixed Tryz.func160 rfl (by decide) (Af rfl) rfl ?_;unfold St.init
 rcases Nat.eq_zero_or_pos a.length with h0|h0
 ·have:a=[]:=jzv.1 h0
  subst this;cases neg<;>simp -implicitDefEqProofs[jJ,-natCast_add,-natCast_mul,-natCast_emod,-natCast_ediv,-natCast_pow,lastOk]
 ·obtain⟨n,hn⟩: ∃n,a.length=n+1:=⟨a.length - 1,by omega⟩
  have hne:a≠[]:=fun h=>by rw[h]at hn;simp at hn
  obtain⟨x,hx⟩:=EN (a:=a) (n:=n) (by omega)
  have hg:a.getLast? =some x:=by rw[List.getLast?_eq_getElem?,hn];simpa using hx
  cases neg<;>simp -implicitDefEqProofs[jJ,-natCast_add,-natCast_mul,-natCast_emod,-natCast_ediv,-natCast_pow,u16,hn,hx,hg,hne,lastOk]
  all_goals
   have e:a[n]'(by omega)=x:=by
    have:=Am (l:=a) (i:=n) (by omega)
    rw[hx]at this
    exact(AK this).symm
   rw[e]
   exact⟨by omega,Iff.rfl⟩
def t8(b:Nat):Nat:=if b=0 then 0 else Nat.log2 b+1
def lenTab:ByteArray:=⟨#[0,1,2,2,3,3,3,3,4,4,4,4,4,4,4,4,5,5,5,5,5,5,5,5,5,5,5,5,5,5,5,5,6,6,6,6,6,6,6,6,6,6,6,6,6,6,6,6,6,6,6,6,6,6,6,6,6,6,6,6,6,6,6,6,7,7,7,7,7,7,7,7,7,7,7,7,7,7,7,7,7,7,7,7,7,7,7,7,7,7,7,7,7,7,7,7,7,7,7,7,7,7,7,7,7,7,7,7,7,7,7,7,7,7,7,7,7,7,7,7,7,7,7,7,7,7,7,7,8,8,8,8,8,8,8,8,8,8,8,8,8,8,8,8,8,8,8,8,8,8,8,8,8,8,8,8,8,8,8,8,8,8,8,8,8,8,8,8,8,8,8,8,8,8,8,8,8,8,8,8,8,8,8,8,8,8,8,8,8,8,8,8,8,8,8,8,8,8,8,8,8,8,8,8,8,8,8,8,8,8,8,8,8,8,8,8,8,8,8,8,8,8,8,8,8,8,8,8,8,8,8,8,8,8,8,8,8,8,8,8,8,8,8,8,8,8,8,8,8,8,8,8,8,8,8,8]⟩
theorem TC: ∀b<256,lenTab[b]? =some (UInt8.ofNat (t8 b)):=by decide
theorem JN: ∀b,b<256→t8 b<256:=by decide
def len16(x:Nat):Nat:=if x<256 then t8 x else 8+t8 (x/256)
theorem PI(x:Nat)(hx:x<65536):CallsF Tryz.prog 299 [.c (.int .u16 x)] (.u (.c (.d (.int .i64 (len16 x))))):=by
 unfold len16;refine Ak (T:=tb) Ah mixed Tryz.func299 rfl (by decide) (Af rfl) rfl ?_;unfold St.init
 have hs:lenTab.size=256:=rfl
 by_cases h:x<256
 ·have h': ¬256≤x:=by omega
  have hg:=TC x h;simp -implicitDefEqProofs[jJ,-natCast_add,-natCast_mul,-natCast_emod,-natCast_ediv,-natCast_pow,h,h'];refine⟨by change _<lenTab.size;omega,?_⟩
  change Av (lenTab[x%256]?) _
  rw[AI h,hg]
  have hk:t8 x<256:=JN x h;simp -implicitDefEqProofs[jJ,-natCast_add,-natCast_mul,-natCast_emod,-natCast_ediv,-natCast_pow,hk];rw[AI hk,Lv (by omega)]
  omega
 ·have h':256≤x:=by omega
  have hg:=TC (x/256) (by omega)
  simp -implicitDefEqProofs[jJ,-natCast_add,-natCast_mul,-natCast_emod,-natCast_ediv,-natCast_pow,h,h'];refine⟨by change _<lenTab.size;omega,?_⟩
  change Av (lenTab[x/256%256]?) _
  rw[AI (show x/256<256 by omega),hg]
  have hk:t8 (x/256)<256:=JN (x/256) (by omega)
  simp -implicitDefEqProofs[jJ,-natCast_add,-natCast_mul,-natCast_emod,-natCast_ediv,-natCast_pow,hk];rw[AI hk,Lv (by omega)]
  omega
theorem ZW{b:Nat}(h:0<b):0<t8 b:=by unfold t8;split<;>omega
theorem jd7{x:Nat}(h:0<x):0<len16 x:=by
 unfold len16;split
 ·exact ZW h
 ·omega
theorem Wv{x:Nat}(h:x<65536):len16 x≤300:=by
 unfold len16;split
 ·have:=JN x (by omega);omega
 ·have:=JN (x/256) (by omega);omega
theorem KO{n:Nat}(h:n≠0): ∃x,(limbs n)[(limbs n).length - 1]? =some x∧0<x∧x<65536:=by
 induction n using Nat.strongRecOn with
 |_ n ih=>
  rw[Eo h]
  by_cases h0:n/65536=0
  ·rw[h0,Cc]
   exact⟨n%65536,rfl,by omega,by omega⟩
  ·obtain⟨x,h1,h2⟩:=ih (n/65536) (by omega) h0
   have hl:(limbs (n/65536)).length≠0:=fun h=>h0 ((SK _).1 h)
   refine⟨x,?_,h2⟩
   rw[show(n%65536::limbs (n/65536)).length - 1=(limbs (n/65536)).length - 1+1 by simp;omega]
   simpa using h1
def Fo(n:Nat):Nat:=if n=0 then 0 else 16*((limbs n).length - 1)+len16 ((limbs n).getD ((limbs n).length - 1) 0)
theorem Qv(n:Nat):Fo n=0↔n=0:=by
 unfold Fo;split
 ·simp[*]
 ·rename_i h
  obtain⟨x,h1,h2,_⟩:=KO h
  rw[Ax,h1]
  have:=jd7 h2
  simp only[Option.getD_some];omega
theorem MS(a:List Nat)(ha:Ok a)(hl:a.length≤1099511627776):CallsF Tryz.prog 227 [.c (Ac a)] (.u (.c (.d (.int .i64 (Fo (val a)))))):=by
 refine Ak (T:=tb) Ah mixed Tryz.func227 rfl (by decide) (Af rfl) rfl ?_;unfold St.init
 simp -implicitDefEqProofs[jJ,-natCast_add,-natCast_mul,-natCast_emod,-natCast_ediv,-natCast_pow];refine .inl ⟨_,BP a ha hl,?_⟩;have hla:=Bg a ha;by_cases h0:val a=0
 ·simp -implicitDefEqProofs[jJ,-natCast_add,-natCast_mul,-natCast_emod,-natCast_ediv,-natCast_pow,h0,Cc,Fo]
 ·obtain⟨x,h1,h2,h3⟩:=KO h0
  have hne:limbs (val a)≠[]:=fun h=>h0 (limbs_nil.1 h)
  obtain⟨n,hn⟩: ∃n,(limbs (val a)).length=n+1:=⟨(limbs (val a)).length - 1,by have:=List.length_pos_iff.2 hne;omega⟩
  have hb:Fo (val a)=16*n+len16 x:=by
   unfold Fo;rw[if_neg h0,Ax,h1,hn];rfl
  rw[hb]
  rw[hn]at h1
  simp only[Nat.add_sub_cancel]at h1;clear hb;generalize limbs (val a)=y at*;have e:y[n]'(by omega)=x:=by
   have:=Am (l:=y) (i:=n) (by omega)
   rw[h1]at this
   exact(AK this).symm
  simp -implicitDefEqProofs[jJ,-natCast_add,-natCast_mul,-natCast_emod,-natCast_ediv,-natCast_pow,hne,hn,h1,u16,e];refine⟨by omega,by omega,by omega,.inl ⟨_,PI x h3,?_⟩⟩
  have:=Wv h3
  simp -implicitDefEqProofs[jJ,-natCast_add,-natCast_mul,-natCast_emod,-natCast_ediv,-natCast_pow];omega
theorem F1(neg:Bool)(a:List Nat)(ha:Ok a)(hl:a.length≤1099511627776):CallsF Tryz.prog 144 [.agg [.bool neg,Ac a]] (.u (.c (.d (.int .i64 (AQ neg (val a)))))):=by
 refine Ak (T:=tb) Ah mixed Tryz.func144 rfl (by decide) (Af rfl) rfl ?_;unfold St.init
 simp -implicitDefEqProofs[jJ,-natCast_add,-natCast_mul,-natCast_emod,-natCast_ediv,-natCast_pow];refine .inl ⟨_,MS a ha hl,?_⟩;have hz:=Qv (val a);by_cases h0:val a=0
 ·have hb:=hz.2 h0;simp -implicitDefEqProofs[jJ,-natCast_add,-natCast_mul,-natCast_emod,-natCast_ediv,-natCast_pow,hb,AQ];simp[h0]
 ·have:Fo (val a)≠0:=fun h=>h0 (hz.1 h)
  cases neg<;>simp -implicitDefEqProofs[jJ,-natCast_add,-natCast_mul,-natCast_emod,-natCast_ediv,-natCast_pow,h0,this,AQ]
theorem Sq(a b:List Nat)(ha:Ok a)(hl:a.length≤1099511627776)(hb:Ok b)(hm:b.length≤1099511627776):CallsF Tryz.prog 281 [.c (Ac a),.c (Ac b)] (.u (.c (.d (.int .i64 (cmp3 (val a) (val b)))))):=by
 refine Ak (T:=tb) Ah mixed Tryz.func281 rfl (by decide) (Af rfl) rfl ?_;unfold St.init
 simp -implicitDefEqProofs[jJ,-natCast_add,-natCast_mul,-natCast_emod,-natCast_ediv,-natCast_pow];refine .inl ⟨_,KM a b ha hl hb hm,?_⟩;simp -implicitDefEqProofs[jJ,-natCast_add,-natCast_mul,-natCast_emod,-natCast_ediv,-natCast_pow]
theorem TF(m n:Nat):cmpZ (m:Int) (n:Int)=cmp3 m n:=by
 unfold cmpZ cmp3;by_cases h1:m<n
 ·rw[if_pos (by omega),if_pos h1]
 ·rw[if_neg (by omega),if_neg h1]
  by_cases h2:n<m
  ·rw[if_pos (by omega),if_pos h2]
  ·rw[if_neg (by omega),if_neg h2]
theorem SP(m n:Nat):cmpZ (-(m:Int)) (-(n:Int))=cmp3 n m:=by
 unfold cmpZ cmp3;by_cases h1:n<m
 ·rw[if_pos (by omega),if_pos h1]
 ·rw[if_neg (by omega),if_neg h1]
  by_cases h2:m<n
  ·rw[if_pos (by omega),if_pos h2]
  ·rw[if_neg (by omega),if_neg h2]
theorem Ov{na nb:Bool}{m n:Nat}(h:AQ na m<AQ nb n):cmpZ (toZ na m) (toZ nb n)= -1:=by
 unfold AQ at h;unfold cmpZ toZ;cases na<;>cases nb<;>(repeat' split at h)<;>simp_all<;>omega
theorem PH{na nb:Bool}{m n:Nat}(h:AQ nb n<AQ na m):cmpZ (toZ na m) (toZ nb n)=1:=by
 unfold AQ at h;unfold cmpZ toZ;cases na<;>cases nb<;>(repeat' split at h)<;>simp_all<;>omega
theorem jiX{na nb:Bool}{m n:Nat}(h:AQ na m=AQ nb n)(h0:AQ na m<0):cmpZ (toZ na m) (toZ nb n)=cmp3 n m:=by
 have e1:na=true:=by
  unfold AQ at h0;cases na<;>(repeat' split at h0)<;>simp_all
 have e2:nb=true:=by
  rw[h]at h0
  unfold AQ at h0;cases nb<;>(repeat' split at h0)<;>simp_all
 subst e1;subst e2;exact SP m n
theorem ja3{na nb:Bool}{m n:Nat}(h:AQ na m=AQ nb n)(h0:0≤AQ na m):cmpZ (toZ na m) (toZ nb n)=cmp3 m n:=by
 have e1:toZ na m=(m:Int):=by
  unfold AQ at h0;unfold toZ;cases na<;>(repeat' split at h0)<;>simp_all
 have e2:toZ nb n=(n:Int):=by
  rw[h]at h0
  unfold AQ at h0;unfold toZ;cases nb<;>(repeat' split at h0)<;>simp_all
 rw[e1,e2,TF]
theorem ZL(na nb:Bool)(a b:List Nat)(ha:Ok a)(hl:a.length≤1099511627776)(hb:Ok b)(hm:b.length≤1099511627776):
  CallsF Tryz.prog 204 [.agg [.bool na,Ac a],.agg [.bool nb,Ac b]] (.u (.c (.d (.int .i64 (cmpZ (toZ na (val a)) (toZ nb (val b))))))):=by
 refine Ak (T:=tb) Ah mixed Tryz.func204 rfl (by decide) (Af rfl) rfl ?_;unfold St.init
 simp -implicitDefEqProofs[jJ,-natCast_add,-natCast_mul,-natCast_emod,-natCast_ediv,-natCast_pow];refine At (Ad [0,1,0,7,15,31]) [.any [] [] (Ap [[2],[8],[3]]),.one,.one,.one] (by rfl) ?_
 simp -implicitDefEqProofs[jJ,-natCast_add,-natCast_mul,-natCast_emod,-natCast_ediv,-natCast_pow]
 (first|refine Ab (F1 na a ha hl) ?_|refine Aa (F1 na a ha hl) ?_)
 simp -implicitDefEqProofs[jJ,-natCast_add,-natCast_mul,-natCast_emod,-natCast_ediv,-natCast_pow]
 (first|refine Ab (F1 nb b hb hm) ?_|refine Aa (F1 nb b hb hm) ?_)
 simp -implicitDefEqProofs[jJ,-natCast_add,-natCast_mul,-natCast_emod,-natCast_ediv,-natCast_pow];refine⟨fun h=>by rw[Ov h],fun h=>⟨fun h2=>by rw[PH h2],fun h2=>⟨fun h3=> .inl ⟨_,Sq b a hb hm ha hl,?_⟩,fun h3=> .inl ⟨_,Sq a b ha hl hb hm,?_⟩⟩⟩⟩
 ·simp -implicitDefEqProofs[jJ,-natCast_add,-natCast_mul,-natCast_emod,-natCast_ediv,-natCast_pow];rw[jiX (by omega) h3]
 ·simp -implicitDefEqProofs[jJ,-natCast_add,-natCast_mul,-natCast_emod,-natCast_ediv,-natCast_pow];rw[ja3 (by omega) h3]
theorem JA(neg:Bool)(n:Nat):toZ (sg neg n) n=toZ neg n:=by
 unfold toZ sg;cases neg<;>simp;intro h;subst h;rfl
theorem jaB(na nb:Bool)(a b:List Nat)(ha:Ok a)(hl:a.length≤1099511627776)(hb:Ok b)(hm:b.length≤1099511627776):
  CallsF Tryz.prog 223 [.agg [.bool na,Ac a],.agg [.bool nb,Ac b]] (.u (.c (.d (.int .i64 (cmpZ (toZ na (val a)) (toZ nb (val b))))))):=by
 refine Ak (T:=tb) Ah mixed Tryz.func223 rfl (by decide) (Af rfl) rfl ?_;unfold St.init
 simp -implicitDefEqProofs[jJ,-natCast_add,-natCast_mul,-natCast_emod,-natCast_ediv,-natCast_pow];refine At (Ad [0,1,0,7,15,31]) [.any [] [] (Ap [[2],[5],[3]]),.one,.one,.one] (by rfl) ?_
 simp -implicitDefEqProofs[jJ,-natCast_add,-natCast_mul,-natCast_emod,-natCast_ediv,-natCast_pow]
 (first|refine Ab (GW na a ha hl) ?_|refine Aa (GW na a ha hl) ?_)
 simp -implicitDefEqProofs[jJ,-natCast_add,-natCast_mul,-natCast_emod,-natCast_ediv,-natCast_pow,AO]
 (first|refine Ab (GW nb b hb hm) ?_|refine Aa (GW nb b hb hm) ?_)
 have hla:=Bg a ha;have hlb:=Bg b hb;have e1:=JA na (val a);have e2:=JA nb (val b);have c1:=HL (limbs (val a)) (limbs (val b)) (An _) (by omega) (An _) (by omega)
 have c2:=HL (limbs (val b)) (limbs (val a)) (An _) (by omega) (An _) (by omega)
 rw[Ao,Ao]at c1 c2
 have p1:sg na (val a)=true→0<val a:=fun h=>by unfold sg at h;simp at h;omega
 have p2:sg nb (val b)=true→0<val b:=fun h=>by unfold sg at h;simp at h;omega
 rw[←e1,←e2]
 simp only[AO];generalize sg na (val a)=x at*;generalize sg nb (val b)=y at*;cases x<;>cases y
 ·simp -implicitDefEqProofs[jJ,-natCast_add,-natCast_mul,-natCast_emod,-natCast_ediv,-natCast_pow,AO];refine .inl ⟨_,c1,?_⟩;simp -implicitDefEqProofs[jJ,-natCast_add,-natCast_mul,-natCast_emod,-natCast_ediv,-natCast_pow,toZ];rw[TF]
 ·have:=p2 rfl
  simp -implicitDefEqProofs[jJ,-natCast_add,-natCast_mul,-natCast_emod,-natCast_ediv,-natCast_pow,AO,toZ];unfold cmpZ;rw[if_neg (by omega),if_pos (by omega)]
 ·have:=p1 rfl
  simp -implicitDefEqProofs[jJ,-natCast_add,-natCast_mul,-natCast_emod,-natCast_ediv,-natCast_pow,AO,toZ];unfold cmpZ;rw[if_pos (by omega)]
 ·simp -implicitDefEqProofs[jJ,-natCast_add,-natCast_mul,-natCast_emod,-natCast_ediv,-natCast_pow,AO];refine .inl ⟨_,c2,?_⟩;simp -implicitDefEqProofs[jJ,-natCast_add,-natCast_mul,-natCast_emod,-natCast_ediv,-natCast_pow,toZ];rw[SP]
theorem B9{n:Nat}(h:n<18446744073709551616):(limbs n).length≤4:=(Hz n).2 h
theorem SU(a b:List Nat)(ha:Ok a)(hl:a.length≤1099511627776)(hb:Ok b)(hm:b.length≤1099511627776)(h1:val a<18446744073709551616)(h2:val b<18446744073709551616):
  CallsF Tryz.prog 162 [.c (Ac a),.c (Ac b)] (.u (.c (.d (Ac (limbs (Nat.gcd (val a) (val b))))))):=by
 refine Ak (T:=tb) Ah mixed Tryz.func162 rfl (by decide) (Af rfl) rfl ?_;unfold St.init
 simp -implicitDefEqProofs[jJ,-natCast_add,-natCast_mul,-natCast_emod,-natCast_ediv,-natCast_pow]
 (first|refine Ab (DE a ha hl) ?_|refine Aa (DE a ha hl) ?_)
 simp -implicitDefEqProofs[jJ,-natCast_add,-natCast_mul,-natCast_emod,-natCast_ediv,-natCast_pow]
 (first|refine Ab (DE b hb hm) ?_|refine Aa (DE b hb hm) ?_)
 simp -implicitDefEqProofs[jJ,-natCast_add,-natCast_mul,-natCast_emod,-natCast_ediv,-natCast_pow];have la:=Bg a ha;have lb:=Bg b hb;have u1:=I7 (limbs (val a)) (An _) (by omega)
 have u2:=I7 (limbs (val b)) (An _) (by omega)
 rw[Ao]at u1 u2
 have f1:=fits64_iff.2 h1;have f2:=fits64_iff.2 h2;rw[f1]at u1;rw[f2]at u2;have k1:Ec (val a)=val a:=by simp[Ec,f1]
 have k2:Ec (val b)=val b:=by simp[Ec,f2]
 rw[k1]at u1
 rw[k2]at u2
 clear hl hm ha hb la lb k1 k2 f1 f2;generalize val a=m at*;generalize val b=n at*;refine AF (fun _:Unit=>⟨[(0,vC (.d (Ac (limbs m)))),(1,vC (.d (Ac (limbs n))))],[]⟩) (fun _=>True) (fun _=>0) () (by simp) trivial ?_
 intro _ _;by_cases h0:n=0
 ·subst h0;simp -implicitDefEqProofs[jJ,-natCast_add,-natCast_mul,-natCast_emod,-natCast_ediv,-natCast_pow,Cc]
 ·have hp:0<(limbs n).length:=limbs_pos_len.2 (by omega)
  simp -implicitDefEqProofs[jJ,-natCast_add,-natCast_mul,-natCast_emod,-natCast_ediv,-natCast_pow,hp]
  (first|refine Ab u1 ?_|refine Aa u1 ?_)
  simp -implicitDefEqProofs[jJ,-natCast_add,-natCast_mul,-natCast_emod,-natCast_ediv,-natCast_pow]
  (first|refine Ab u2 ?_|refine Aa u2 ?_)
  simp -implicitDefEqProofs[jJ,-natCast_add,-natCast_mul,-natCast_emod,-natCast_ediv,-natCast_pow];refine AF (fun p:Nat×Nat=>⟨[(5,vI .u64 p.1),(7,vI .u64 p.2)],[]⟩) (fun p=>Nat.gcd p.1 p.2=Nat.gcd m n∧p.1<18446744073709551616∧p.2<18446744073709551616) (fun p=>p.2) (m,n) (by simp) ⟨rfl,h1,h2⟩ ?_
  rintro⟨x,y⟩ ⟨g1,g2,g3⟩
  simp only at g1 g2 g3;by_cases hy:0<y
  ·simp -implicitDefEqProofs[jJ,-natCast_add,-natCast_mul,-natCast_emod,-natCast_ediv,-natCast_pow,hy];refine At (Ad [0,0,0,6,3,31]) [.any [] [] (Ap [[7],[5],[7],[36,37],[35]]),.one] (by rfl) ?_
   have hy0:y≠0:=by omega
   simp -implicitDefEqProofs[jJ,-natCast_add,-natCast_mul,-natCast_emod,-natCast_ediv,-natCast_pow,hy0];refine⟨y,x%y,⟨rfl,rfl⟩,⟨?_,g3,Nat.lt_of_le_of_lt (Nat.mod_le _ _) g2⟩,Nat.mod_lt _ hy⟩;rw[Nat.gcd_comm,←Nat.gcd_rec,Nat.gcd_comm,g1]
  ·have:y=0:=by omega
   subst this;simp -implicitDefEqProofs[jJ,-natCast_add,-natCast_mul,-natCast_emod,-natCast_ediv,-natCast_pow]
   (first|refine Ab (Hw x g2) ?_|refine Aa (Hw x g2) ?_)
   simp -implicitDefEqProofs[jJ,-natCast_add,-natCast_mul,-natCast_emod,-natCast_ediv,-natCast_pow];rw[←g1,Nat.gcd_zero_right]
theorem OF(a b:List Nat)(ha:Ok a)(hl:a.length≤1099511627776)(hb:Ok b)(hm:b.length≤1099511627776)(h1:val a<18446744073709551616)(h2:val b<18446744073709551616)(h0:val b≠0):
  CallsF Tryz.prog 167 [.c (Ac a),.c (Ac b)] (.tup [.c (.d (Ac (limbs (val a/val b)))),.c (.d (Ac (limbs (val a%val b)))),.c (.d (.int .i64 0))]):=by
 refine Ak (T:=tb) Ah mixed Tryz.func167 rfl (by decide) (Af rfl) rfl ?_;unfold St.init
 simp -implicitDefEqProofs[jJ,-natCast_add,-natCast_mul,-natCast_emod,-natCast_ediv,-natCast_pow]
 (first|refine Ab (B6 a ha hl) ?_|refine Aa (B6 a ha hl) ?_)
 simp -implicitDefEqProofs[jJ,-natCast_add,-natCast_mul,-natCast_emod,-natCast_ediv,-natCast_pow]
 (first|refine Ab (B6 b hb hm) ?_|refine Aa (B6 b hb hm) ?_)
 have l1:=B9 h1;have l2:=B9 h2;have s1:=N4 (limbs (val a)) (An _) l1;have s2:=N4 (limbs (val b)) (An _) l2;rw[Ao]at s1 s2;have hp:limbs (val b)≠[]:=fun h=>h0 (limbs_nil.1 h)
 clear hl hm ha hb;generalize val a=m at*;generalize val b=n at*;have e1:m/n%18446744073709551616=m/n:=AI (Nat.lt_of_le_of_lt (Nat.div_le_self _ _) h1);have e2:m%n<18446744073709551616:=Nat.lt_of_le_of_lt (Nat.mod_le _ _) h1;simp -implicitDefEqProofs[jJ,-natCast_add,-natCast_mul,-natCast_emod,-natCast_ediv,-natCast_pow,hp,l1,l2]
 (first|refine Ab s1 ?_|refine Aa s1 ?_)
 simp -implicitDefEqProofs[jJ,-natCast_add,-natCast_mul,-natCast_emod,-natCast_ediv,-natCast_pow]
 (first|refine Ab s2 ?_|refine Aa s2 ?_)
 simp -implicitDefEqProofs[jJ,-natCast_add,-natCast_mul,-natCast_emod,-natCast_ediv,-natCast_pow,h0,e1]
 (first|refine Ab (FZ (m/n) (by omega)) ?_|refine Aa (FZ (m/n) (by omega)) ?_)
 simp -implicitDefEqProofs[jJ,-natCast_add,-natCast_mul,-natCast_emod,-natCast_ediv,-natCast_pow]
 (first|refine Ab s1 ?_|refine Aa s1 ?_)
 simp -implicitDefEqProofs[jJ,-natCast_add,-natCast_mul,-natCast_emod,-natCast_ediv,-natCast_pow]
 (first|refine Ab s2 ?_|refine Aa s2 ?_)
 simp -implicitDefEqProofs[jJ,-natCast_add,-natCast_mul,-natCast_emod,-natCast_ediv,-natCast_pow,h0]
 (first|refine Ab (FZ (m%n) e2) ?_|refine Aa (FZ (m%n) e2) ?_)
 simp -implicitDefEqProofs[jJ,-natCast_add,-natCast_mul,-natCast_emod,-natCast_ediv,-natCast_pow]
theorem jjR(a b:List Nat)(ha:Ok a)(hl:a.length≤1099511627776)(hb:Ok b)(hm:b.length≤1099511627776)(h1:val a<18446744073709551616)(h2:val b<18446744073709551616):
  CallsF Tryz.prog 105 [.c (Ac a),.c (Ac b)] (.u (.c (.d (Ac (limbs (Nat.gcd (val a) (val b))))))):=by
 refine Ak (T:=tb) Ah mixed Tryz.func105 rfl (by decide) (Af rfl) rfl ?_;unfold St.init
 simp -implicitDefEqProofs[jJ,-natCast_add,-natCast_mul,-natCast_emod,-natCast_ediv,-natCast_pow]
 (first|refine Ab (B6 a ha hl) ?_|refine Aa (B6 a ha hl) ?_)
 simp -implicitDefEqProofs[jJ,-natCast_add,-natCast_mul,-natCast_emod,-natCast_ediv,-natCast_pow]
 (first|refine Ab (B6 b hb hm) ?_|refine Aa (B6 b hb hm) ?_)
 simp -implicitDefEqProofs[jJ,-natCast_add,-natCast_mul,-natCast_emod,-natCast_ediv,-natCast_pow];clear hl hm ha hb;generalize val a=m at*;generalize val b=n at*;refine AF (fun p:Nat×Nat=>⟨[(0,vC (.d (Ac (limbs p.1)))),(1,vC (.d (Ac (limbs p.2))))],[]⟩) (fun p=>Nat.gcd p.1 p.2=Nat.gcd m n∧p.1<18446744073709551616∧p.2<18446744073709551616) (fun p=>p.2) (m,n) (by simp) ⟨rfl,h1,h2⟩ ?_
 rintro⟨x,y⟩ ⟨g1,g2,g3⟩
 simp only at g1 g2 g3;by_cases h0:y=0
 ·subst h0;simp -implicitDefEqProofs[jJ,-natCast_add,-natCast_mul,-natCast_emod,-natCast_ediv,-natCast_pow,Cc];rw[←g1,Nat.gcd_zero_right]
 ·have hp:0<(limbs y).length:=limbs_pos_len.2 (by omega)
  have l1:=B9 g2;have l2:=B9 g3;have d:=OF (limbs x) (limbs y) (An _) (by omega) (An _) (by omega) (by rw[Ao];exact g2) (by rw[Ao];exact g3) (by rw[Ao];exact h0)
  rw[Ao,Ao]at d
  simp -implicitDefEqProofs[jJ,-natCast_add,-natCast_mul,-natCast_emod,-natCast_ediv,-natCast_pow,hp]
  (first|refine Ab d ?_|refine Aa d ?_)
  simp -implicitDefEqProofs[jJ,-natCast_add,-natCast_mul,-natCast_emod,-natCast_ediv,-natCast_pow];refine⟨y,x%y,⟨rfl,rfl⟩,⟨?_,g3,Nat.lt_of_le_of_lt (Nat.mod_le _ _) g2⟩,Nat.mod_lt _ (by omega)⟩
  rw[Nat.gcd_comm,←Nat.gcd_rec,Nat.gcd_comm,g1]
end Go.Va
