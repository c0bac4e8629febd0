/- a part of the proof -/
import Derived.Test.YtkajmpgbnbikiaaGreatDoorPaa
import Derived.Test.YtkajmpgbnbikiaaGreatDoorPaj
import Derived.Test.YtkajmpgbnbikiaaGreatDoorPak
set_option linter.all false
set_option maxHeartbeats 4000000
namespace Go.Va
def val:List Nat→Nat
 |[]=>0
 |x::r=>x+65536*val r
def Ok(a:List Nat):Prop:= ∀x∈a,x<65536
def E9:Nat→Nat→List Nat
 |0,_=>[]
 |k+1,n=>if n=0 then [] else n%65536::E9 k (n/65536)
def limbs(n:Nat):List Nat:=E9 n n
theorem Ok.nil:Ok []:=fun x h=>by cases h
theorem Ok.cons{x:Nat}{a:List Nat}(hx:x<65536)(h:Ok a):Ok (x::a):=fun y hy=>by
 rcases jzn.1 hy with rfl|hy
 ·exact hx
 ·exact h y hy
theorem Ok.head{x:Nat}{a:List Nat}(h:Ok (x::a)):x<65536:=h x (by simp)
theorem Ok.tail{x:Nat}{a:List Nat}(h:Ok (x::a)):Ok a:=fun y hy=>h y (by simp[hy])
theorem Ok.get{a:List Nat}(h:Ok a){i x:Nat}(hx:a[i]? =some x):x<65536:=h x (Bm hx)
theorem Ok.app{a b:List Nat}(h:Ok a)(h':Ok b):Ok (a++b):=fun x hx=>by
 rcases List.mem_append.1 hx with h1|h1
 ·exact h x h1
 ·exact h' x h1
theorem Ok.take{a:List Nat}(h:Ok a)(n:Nat):Ok (a.take n):=fun x hx=>h x (List.mem_of_mem_take hx)
theorem Ok.drop{a:List Nat}(h:Ok a)(n:Nat):Ok (a.drop n):=fun x hx=>h x (List.mem_of_mem_drop hx)
theorem Ok.set{a:List Nat}(h:Ok a)(n:Nat){x:Nat}(hx:x<65536):Ok (a.set n x):=fun y hy=>by
 rcases List.mem_or_eq_of_mem_set hy with h1|h1
 ·exact h y h1
 ·omega
theorem Xm: ∀(k m n:Nat),n≤k→n≤m→E9 k n=E9 m n
 |0,0,_,_,_=>rfl
 |0,m+1,n,h,_=>by
  have:n=0:=by omega
  simp[E9,this]
 |k+1,0,n,_,h=>by
  have:n=0:=by omega
  simp[E9,this]
 |k+1,m+1,n,h1,h2=>by
  unfold E9;by_cases h:n=0
  ·simp[h]
  ·rw[if_neg h,if_neg h,Xm k m (n/65536) (by omega) (by omega)]
theorem B3:limbs 0=[]:=rfl
theorem DQ{n:Nat}(h:n≠0):limbs n=n%65536::limbs (n/65536):=by
 obtain⟨k,rfl⟩: ∃k,n=k+1:=⟨n - 1,by omega⟩
 unfold limbs;rw[←Xm k _ ((k+1)/65536) (by omega) (At _)]
 rfl
theorem jf7(n:Nat):limbs n=if n=0 then [] else n%65536::limbs (n/65536):=by
 by_cases h:n=0
 ·subst h;rfl
 ·rw[if_neg h,DQ h]
theorem JG{x m:Nat}(hx:x<65536)(h:x+65536*m≠0):limbs (x+65536*m)=x::limbs m:=by
 rw[DQ h]
 congr 1
 ·omega
 ·congr 1;omega
theorem AB(n:Nat):val (limbs n)=n:=by
 induction n using Nat.strongRecOn with
 |_ n ih=>
  by_cases h:n=0
  ·subst h;rfl
  ·rw[DQ h,val,ih (n/65536) (by omega)];omega
theorem AC(n:Nat):Ok (limbs n):=by
 induction n using Nat.strongRecOn with
 |_ n ih=>
  by_cases h:n=0
  ·subst h;exact Ok.nil
  ·rw[DQ h];exact Ok.cons (by omega) (ih _ (by omega))
theorem limbs_nil{n:Nat}:limbs n=[]↔n=0:=by
 constructor
 ·intro h;have:=AB n;rw[h]at this;exact this.symm
 ·rintro rfl;rfl
theorem jpk(n:Nat):(limbs n).length=0↔n=0:=by rw[jzv,limbs_nil]
theorem WM:val []=0:=rfl
theorem jat(a b:List Nat):val (a++b)=val a+65536^a.length*val b:=by
 induction a with
 |nil=>simp[val]
 |cons x a ih=>simp only[List.cons_append,val,ih,List.length_cons,Nat.pow_succ];rw[Nat.mul_add,Nat.mul_comm (65536^a.length) 65536,Nat.mul_assoc,Nat.add_assoc]
theorem jhK(k:Nat):val (List.replicate k 0)=0:=by
 induction k with
 |zero=>rfl
 |succ k ih=>rw[List.replicate_succ,val,ih]
theorem FP: ∀(a:List Nat),Ok a→val a<65536^a.length
 |[],_=>by simp[val]
 |x::a,h=>by
  have:=FP a h.tail
  have:=h.head
  rw[List.length_cons,Nat.pow_succ,val]
  omega
theorem Du: ∀(a:List Nat),Ok a→(limbs (val a)).length≤a.length
 |[],_=>by simp[val,B3]
 |x::a,h=>by
  have ih:=Du a h.tail;by_cases h0:x+65536*val a=0
  ·rw[val,h0,B3];simp
  ·rw[val,JG h.head h0];simpa using ih
theorem jk5{m n:Nat}(h:m≤n):(limbs m).length≤(limbs n).length:=by
 induction n using Nat.strongRecOn generalizing m with
 |_ n ih=>
  by_cases hm:m=0
  ·subst hm;simp[B3]
  ·rw[DQ hm,DQ (n:=n) (by omega)]
   have:= @ih (n/65536) (by omega) (m/65536) (by omega)
   simpa using this
theorem O8(n k:Nat)(h:n<65536^k):(limbs n).length≤k:=by
 induction k generalizing n with
 |zero=>
  have:n=0:=by simpa using h
  subst this;simp[B3]
 |succ k ih=>
  by_cases h0:n=0
  ·subst h0;simp[B3]
  ·rw[DQ h0]
   have:n/65536<65536^k:=by
    rw[Nat.pow_succ]at h
    exact Nat.div_lt_of_lt_mul (by rw[Nat.mul_comm];exact h)
   simpa using ih _ this
theorem If:65536^4=18446744073709551616:=by simp
theorem I9(n:Nat):(limbs n).length≤4↔n<18446744073709551616:=by
 rw[←If]
 constructor
 ·intro h;have:=FP _ (AC n);rw[AB]at this;exact Nat.lt_of_lt_of_le this (Nat.pow_le_pow_right (by omega) h)
 ·exact O8 n 4
def A9:List Nat→Nat→Nat
 |_,0=>0
 |a,n+1=>if a.getD n 0=0 then A9 a n else n+1
theorem Jc(a:List Nat): ∀n,A9 a n≤n
 |0=>At _
 |n+1=>by
  unfold A9;split
  ·exact Nat.le_succ_of_le (Jc a n)
  ·exact At _
theorem WL(x:Nat)(a:List Nat): ∀n,A9 (x::a) (n+1)=if A9 a n=0 then (if x=0 then 0 else 1) else A9 a n+1
 |0=>by simp[A9]
 |n+1=>by
  rw[A9,WL x a n]
  simp only[List.getD_cons_succ];rw[A9];by_cases h:a.getD n 0=0
  ·rw[if_pos h,if_pos h]
  ·rw[if_neg h,if_neg h];simp
theorem Hu: ∀(a:List Nat),Ok a→a.take (A9 a a.length)=limbs (val a)
 |[],_=>rfl
 |x::a,h=>by
  have ih:=Hu a h.tail;rw[List.length_cons,WL,val];by_cases h0:A9 a a.length=0
  ·rw[h0]at ih
   simp only[List.take_zero]at ih;have hv:val a=0:=limbs_nil.1 ih.symm;rw[if_pos h0,hv];by_cases hx:x=0
   ·subst hx;rfl
   ·rw[if_neg hx]
    simp only[List.take_succ_cons,List.take_zero,Nat.mul_zero,Nat.add_zero];have:=JG (x:=x) (m:=0) h.head (by omega)
    simpa [B3]using this.symm
  ·rw[if_neg h0,List.take_succ_cons,ih]
   have hv:val a≠0:=fun h1=>by
    rw[h1,B3,List.take_eq_nil_iff]at ih
    rcases ih with h2|h2
    ·exact h0 h2
    ·subst h2;simp[A9]at h0
   exact(JG h.head (by omega)).symm
theorem Hb: ∀(a b:List Nat),(∀j,a.getD j 0=b.getD j 0)→val a=val b
 |[],[],_=>rfl
 |[],y::b,h=>by
  have h0:=h 0;simp at h0;have:=Hb [] b fun j=>by simpa using h (j+1)
  have e:val (y::b)=y+65536*val b:=rfl
  rw[e,←h0,←this];rfl
 |x::a,[],h=>by
  have h0:=h 0;simp at h0;have:=Hb a [] fun j=>by simpa using h (j+1)
  have e:val (x::a)=x+65536*val a:=rfl
  rw[e,h0,this];rfl
 |x::a,y::b,h=>by
  have h0:=h 0;simp at h0;have:=Hb a b fun j=>by simpa using h (j+1)
  rw[val,val,h0,this]
theorem jmM{a:List Nat}(h:Ok a)(i:Nat):a.getD i 0<65536:=by
 rw[AW]
 cases hx:a[i]? with
 |none=>simp
 |some x=>exact h.get hx
theorem I3(a:List Nat):val a=a.getD 0 0+65536*val a.tail:=by
 cases a with
 |nil=>rfl
 |cons x a=>rfl
theorem TN{a:List Nat}(h:Ok a):Ok a.tail:=by
 cases a with
 |nil=>exact h
 |cons x a=>exact h.tail
theorem FY(a:List Nat)(j:Nat):a.tail.getD j 0=a.getD (j+1) 0:=by
 cases a<;>simp
theorem Lc: ∀(i:Nat) (a b:List Nat),Ok a→Ok b→(∀j,i<j→a.getD j 0=b.getD j 0)→a.getD i 0<b.getD i 0→val a<val b
 |0,a,b,ha,hb,h,hl=>by
  have:=Hb a.tail b.tail fun j=>by rw[FY,FY];exact h (j+1) (by omega)
  rw[I3 a,I3 b,this]
  omega
 |i+1,a,b,ha,hb,h,hl=>by
  have:=Lc i a.tail b.tail (TN ha) (TN hb) (fun j hj=>by rw[FY,FY];exact h (j+1) (by omega)) (by rw[FY,FY];exact hl)
  have:=jmM ha 0
  rw[I3 a,I3 b]
  omega
def Cs(a b:Nat):Int:=if a<b then -1 else if b<a then 1 else 0
def Ax(a b:Int):Int:=if a<b then -1 else if b<a then 1 else 0
theorem PJ{a b:Nat}(h:(limbs a).length<(limbs b).length):a<b:=by
 rcases Nat.lt_or_ge a b with h1|h1
 ·exact h1
 ·have:=jk5 h1;omega
theorem jkk{a:List Nat}{i:Nat}(h:i<a.length):a[i]? =some (a.getD i 0):=by
 rw[AW,An h];rfl
theorem jmV{a:List Nat}{i:Nat}(h:i<a.length):a.take (i+1)=a.take i++[a.getD i 0]:=by
 rw[List.take_add_one,jkk h];rfl
theorem jix(a:List Nat)(x:Nat):val (a++[x])=val a+65536^a.length*x:=by rw[jat];simp[val]
theorem Jr{a:List Nat}{i:Nat}(h:i<a.length):val (a.take (i+1))=val (a.take i)+65536^i*a.getD i 0:=by
 rw[jmV h,jix,Cj,BL (by omega)]
theorem ja7{a:List Nat}{i:Nat}(h:i<a.length):val (a.drop i)=a.getD i 0+65536*val (a.drop (i+1)):=by
 rw[Be h,val,AW,An h];rfl
theorem Kz: ∀{a:List Nat} {i x:Nat},i<a.length→val (a.set i x)+65536^i*a.getD i 0=val a+65536^i*x
 |[],_,_,h=>by simp at h
 |y::a,0,x,_=>by simp[val];omega
 |y::a,i+1,x,h=>by
  have ih:=Kz (a:=a) (i:=i) (x:=x) (by simpa using h)
  simp only[List.set_cons_succ,val,List.getD_cons_succ,Nat.pow_succ];have e1:65536^i*65536*a.getD i 0=65536*(65536^i*a.getD i 0):=by rw[Nat.mul_comm (65536^i),Nat.mul_assoc]
  have e2:65536^i*65536*x=65536*(65536^i*x):=by rw[Nat.mul_comm (65536^i),Nat.mul_assoc]
  rw[e1,e2]
  omega
section
variable {α:Type}
def BG(e:α→D)(l:List α):D:= .slice l.length (l.map e)
def u16(x:Nat):D:= .int .u16 x
def i64(x:Int):D:= .int .i64 x
abbrev Ag(a:List Nat):D:=BG u16 a
abbrev intsD(a:List Int):D:=BG i64 a
@[simp]theorem lenC_lst(e:α→D)(l:List α):lenC (.d (BG e l))=some l.length:=rfl
@[simp]theorem jpB(h:List (Nat×Blk))(i:Int)(e:α→D)(l:List α):idxSl h 1 i (.d (BG e l))=if 0≤i∧i<l.length then some (.d (.ref ((l.drop i.toNat).map e))) else none:=by
 unfold BG idxSl;simp only[List.length_map,Nat.mul_one,and_true,List.map_drop]
@[simp]theorem src_lst(j:TI)(e:α→D)(l:List α)(st:St)(hj:j.size=1):st.src j (.d (BG e l))=some (l.length,l.map e):=by
 unfold BG St.src;simp[hj]
@[simp]theorem jp1(h:List (Nat×Blk))(e:α→D)(l:List α)(k:Int):sliceV h (.d (BG e l)) none (some k) 1=if 0≤k∧k≤l.length then some (.d (BG e (l.take k.toNat))) else none:=by
 unfold BG sliceV D7;simp only[List.length_map,Nat.mul_one,if_true,Option.getD_none,Option.getD_some,Int.toNat_zero,Nat.sub_zero];by_cases hk:0≤k∧k≤l.length
 ·rw[if_pos hk,if_pos (by omega)]
  simp[AH]
  omega
 ·rw[if_neg hk,if_neg (by omega)]
@[simp]theorem flat_lst(e:α→D)(l:List α):D.flat (BG e l)=false:=rfl
@[simp high]theorem jcK(e:α→D)(l:List α)(n:Nat)(v:α)(h:n<l.length):splice n [e v] (l.map e)=(l.set n v).map e:=by
 unfold splice
 apply List.ext_getElem?
 intro k;simp only[List.map_set,List.getElem?_set,List.length_map,List.length_singleton];by_cases hk:k<n
 ·rw[List.append_assoc,List.getElem?_append_left (by simp;omega),if_neg (by omega),List.getElem?_take,if_pos hk]
 ·by_cases he:k=n
  ·subst he;rw[if_pos rfl,if_pos (by omega),List.append_assoc,List.getElem?_append_right (by simp;omega)]
   simp[BL (Nat.le_of_lt h)]
  ·rw[if_neg (fun h=>he h.symm),List.getElem?_append_right (by simp;omega),List.getElem?_drop]
   congr 1
   simp
   omega
theorem Sc{α:Type}{new l:List α}(h:new.length=l.length):splice 0 new l=new:=by
 unfold splice;rw[List.take_zero,Nat.zero_add,DL (by omega)]
 simp
@[simp high]theorem rep_u16(n:Nat):rep n [D.int .u16 0]=(List.replicate n 0).map u16:=by
 induction n with
 |zero=>rfl
 |succ n ih=>rw[rep,ih,List.replicate_succ];rfl
@[simp]theorem rep_one(e:α→D)(n:Nat)(z:α):rep n [e z]=(List.replicate n z).map e:=by
 induction n with
 |zero=>rfl
 |succ n ih=>rw[rep,ih,List.replicate_succ];rfl
end
@[simp]theorem jpX{α β:Type}(e:α→β)(l:List α):(l.map e).take l.length=l.map e:=Bv (by simp)
@[simp]theorem jpu{α:Type}(n:Nat)(l:List α):(l.take n).take n=l.take n:=by rw[List.take_take,Nat.min_self]
theorem KJ{n:Int}(h: -9223372036854775808≤n∧n≤9223372036854775807):IntKind.i64.wrap n=n:=by
 have e:IntKind.i64.wrap n=if n%2^64≥2^(64 - 1) then n%2^64 - 2^64 else n%2^64:=by
  unfold IntKind.wrap;simp[IntKind.signed,IntKind.bits]
 rw[e]
 split<;>omega
@[simp]theorem jps{n:Nat}(h:n<65536):IntKind.i64.wrap (n:Int)=n:=KJ (by omega)
@[simp]theorem wrap_u8(n:Nat):IntKind.u8.wrap (n:Int)=((n%256:Nat):Int):=by simp[IntKind.wrap,IntKind.signed,IntKind.bits]
@[simp]theorem jdL(n:Nat):IntKind.u16.wrap (n:Int)=((n%65536:Nat):Int):=by simp[IntKind.wrap,IntKind.signed,IntKind.bits]
@[simp]theorem wrap_u32(n:Nat):IntKind.u32.wrap (n:Int)=((n%4294967296:Nat):Int):=by simp[IntKind.wrap,IntKind.signed,IntKind.bits]
@[simp]theorem TM(n:Nat):IntKind.u64.wrap (n:Int)=((n%18446744073709551616:Nat):Int):=by simp[IntKind.wrap,IntKind.signed,IntKind.bits]
theorem ZM(k:IntKind)(a n:Nat)(h:n≤k.bits):FI k (a:Int) (n:Int)=((a/2^n:Nat):Int):=by
 unfold FI;rw[Int.toNat_natCast,BL h,Int.fdiv_eq_ediv_of_nonneg _ (by exact_mod_cast Nat.zero_le _)]
 simp
theorem jdo(a n:Nat)(h:n≤64):Ho .u64 (a:Int) (n:Int)=((a*2^n%18446744073709551616:Nat):Int):=by
 unfold Ho;rw[Int.toNat_natCast,BL (show n≤IntKind.u64.bits from h),←TM]
 congr 1
theorem je0(a b:Nat)(ha:a<18446744073709551616)(hb:b<18446744073709551616):Hc .u64 (a:Int) (b:Int)=((a|||b:Nat):Int):=by
 unfold Hc
 show IntKind.u64.wrap (((BitVec.ofInt 64 (a:Int)|||BitVec.ofInt 64 (b:Int)).toNat:Nat):Int)=_
 have hl:a|||b<2^64:=Nat.or_lt_two_pow (n:=64) ha hb
 rw[TM,BitVec.ofInt_natCast,BitVec.ofInt_natCast,BitVec.toNat_or,BitVec.toNat_ofNat,BitVec.toNat_ofNat,Cp (a:=a) ha,Cp (a:=b) hb,Cp (a:=a|||b) hl]
theorem jfw(m x n:Nat)(hm:m<2^n):m|||2^n*x=m+2^n*x:=by
 rw[Nat.or_comm,←Nat.two_pow_add_eq_or_of_lt hm,Nat.add_comm]
section
variable (a b n:Nat)
theorem XT:(a:Int)+(b:Int)=((a+b:Nat):Int):=rfl
theorem jjD{c:Int}(h:0≤c):(a:Int)+c=((a+c.toNat:Nat):Int):=by omega
theorem jaU{c:Int}(h:0≤c):c+(a:Int)=((c.toNat+a:Nat):Int):=by omega
theorem jgD:(a:Int)*(b:Int)=((a*b:Nat):Int):=rfl
theorem jiC{c:Int}(h:0≤c):(a:Int)*c=((a*c.toNat:Nat):Int):=by
 obtain⟨n,rfl⟩:=Int.eq_ofNat_of_zero_le h;rfl
theorem jaS{c:Int}(h:0≤c):c*(a:Int)=((c.toNat*a:Nat):Int):=by
 obtain⟨n,rfl⟩:=Int.eq_ofNat_of_zero_le h;rfl
theorem QO:(a:Int)%(b:Int)=((a%b:Nat):Int):=(Int.natCast_emod a b).symm
theorem jmD{c:Int}(h:0≤c):(a:Int)%c=((a%c.toNat:Nat):Int):=by
 obtain⟨n,rfl⟩:=Int.eq_ofNat_of_zero_le h;exact QO a n
theorem SV:(a:Int).tmod (b:Int)=((a%b:Nat):Int):=by rw[Int.tmod_eq_emod_of_nonneg (Int.natCast_nonneg a),Int.natCast_emod]
theorem jcm{c:Int}(h:0≤c):(a:Int).tmod c=((a%c.toNat:Nat):Int):=by
 obtain⟨n,rfl⟩:=Int.eq_ofNat_of_zero_le h;exact SV a n
theorem Pm:(a:Int).tdiv (b:Int)=((a/b:Nat):Int):=by rw[Int.tdiv_eq_ediv_of_nonneg (Int.natCast_nonneg a),Int.natCast_ediv]
theorem jaY{c:Int}(h:0≤c):(a:Int).tdiv c=((a/c.toNat:Nat):Int):=by
 obtain⟨n,rfl⟩:=Int.eq_ofNat_of_zero_le h;exact Pm a n
theorem MH:(a:Int)/(b:Int)=((a/b:Nat):Int):=(Int.natCast_ediv a b).symm
theorem XS{c:Int}(h:0≤c):(a:Int)/c=((a/c.toNat:Nat):Int):=by
 obtain⟨n,rfl⟩:=Int.eq_ofNat_of_zero_le h;exact MH a n
theorem jgb(k:IntKind){c:Int}(h:0≤c):FI k (a:Int) c=((a/2^min c.toNat k.bits:Nat):Int):=by
 unfold FI;rw[Int.fdiv_eq_ediv_of_nonneg _ (Int.pow_nonneg (by omega))]
 simp
theorem jmG:((n+1:Nat):Int) - 1=(n:Int):=by omega
theorem jo8{c:Int}(h:0≤c):((a:Int)≤c)=(a≤c.toNat):=propext ⟨fun _=>by omega,fun _=>by omega⟩
theorem jkP{c:Int}(h:0≤c):(c≤(a:Int))=(c.toNat≤a):=propext ⟨fun _=>by omega,fun _=>by omega⟩
theorem jmi{c:Int}(h:0≤c):((a:Int)<c)=(a<c.toNat):=propext ⟨fun _=>by omega,fun _=>by omega⟩
theorem jhs{c:Int}(h:0≤c):(c<(a:Int))=(c.toNat<a):=propext ⟨fun _=>by omega,fun _=>by omega⟩
theorem jbC{c:Int}(h:0≤c):((a:Int)=c)=(a=c.toNat):=propext ⟨fun _=>by omega,fun _=>by omega⟩
theorem jfD{c:Int}(h:0≤c):(c=(a:Int))=(c.toNat=a):=propext ⟨fun _=>by omega,fun _=>by omega⟩
theorem jna:((a:Int)=(b:Int))=(a=b):=propext Int.ofNat_inj
theorem Zb{c:Int}(h:c≤0):(c≤(a:Int))=True:=eq_true (by omega)
theorem YM:((0:Int)≤(a:Int))=True:=eq_true (Int.natCast_nonneg a)
end
@[simp]theorem lst_fold{α:Type}(e:α→D)(l:List α):D.slice l.length (l.map e)=BG e l:=rfl
theorem jgS(l:List Nat)(n v:Nat):(l.map u16).set n (D.int .u16 (v:Int))=(l.set n v).map u16:=by rw[List.map_set];rfl
theorem jgi:u16 0=D.int .u16 0:=rfl
@[simp high]theorem jpo(n v:Nat)(l:List Nat)(h:n<l.length):splice n [D.int .u16 (v:Int)] (l.map u16)=(l.set n v).map u16:=jcK u16 l n v h
theorem jJ:(∀a b:Nat,(a:Int)+(b:Int)=((a+b:Nat):Int))∧(∀a b:Nat,(a:Int)*(b:Int)=((a*b:Nat):Int))∧
(∀(l:List Nat) (n v:Nat),(l.map u16).set n (D.int .u16 (v:Int))=(l.set n v).map u16)∧
(∀(a:Nat) (c:Int),0≤c→(a:Int)+c=((a+c.toNat:Nat):Int))∧
(∀(a:Nat) (c:Int),0≤c→c+(a:Int)=((c.toNat+a:Nat):Int))∧
(∀(a:Nat) (c:Int),0≤c→(a:Int)*c=((a*c.toNat:Nat):Int))∧
(∀(a:Nat) (c:Int),0≤c→c*(a:Int)=((c.toNat*a:Nat):Int))∧
(∀a b:Nat,(a:Int)%(b:Int)=((a%b:Nat):Int))∧
(∀(a:Nat) (c:Int),0≤c→(a:Int)%c=((a%c.toNat:Nat):Int))∧
(∀a b:Nat,(a:Int).tmod (b:Int)=((a%b:Nat):Int))∧
(∀(a:Nat) (c:Int),0≤c→(a:Int).tmod c=((a%c.toNat:Nat):Int))∧
(∀a b:Nat,(a:Int).tdiv (b:Int)=((a/b:Nat):Int))∧
(∀(a:Nat) (c:Int),0≤c→(a:Int).tdiv c=((a/c.toNat:Nat):Int))∧
(∀a b:Nat,(a:Int)/(b:Int)=((a/b:Nat):Int))∧
(∀(a:Nat) (c:Int),0≤c→(a:Int)/c=((a/c.toNat:Nat):Int))∧
(∀(k:IntKind) (a:Nat) (c:Int),0≤c→FI k (a:Int) c=((a/2^min c.toNat k.bits:Nat):Int))∧
(∀n:Nat,((n+1:Nat):Int) - 1=(n:Int))∧
(∀(a:Nat) (c:Int),0≤c→((a:Int)≤c)=(a≤c.toNat))∧
(∀(a:Nat) (c:Int),0≤c→(c≤(a:Int))=(c.toNat≤a))∧
(∀(a:Nat) (c:Int),0≤c→((a:Int)<c)=(a<c.toNat))∧
(∀(a:Nat) (c:Int),0≤c→(c<(a:Int))=(c.toNat<a))∧
(∀(a:Nat) (c:Int),0≤c→((a:Int)=c)=(a=c.toNat))∧
(∀(a:Nat) (c:Int),0≤c→(c=(a:Int))=(c.toNat=a))∧
(∀a b:Nat,((a:Int)=(b:Int))=(a=b))∧
(∀(a:Nat) (c:Int),c≤0→(c≤(a:Int))=True)∧
(∀a:Nat,((0:Int)≤(a:Int))=True):=
⟨XT,jgD,jgS,fun a _ h=>jjD a h,fun a _ h=>jaU a h,fun a _ h=>jiC a h,fun a _ h=>jaS a h,QO,fun a _ h=>jmD a h,SV,fun a _ h=>jcm a h,Pm,fun a _ h=>jaY a h,MH,fun a _ h=>XS a h,fun k a _ h=>jgb a k h,jmG,fun a _ h=>jo8 a h,fun a _ h=>jkP a h,fun a _ h=>jmi a h,fun a _ h=>jhs a h,fun a _ h=>jbC a h,fun a _ h=>jfD a h,jna,fun a _ h=>Zb a h,YM⟩
end Go.Va
namespace Go.Va
open Go.Proofs
theorem Fx{α:Type}{a:List α}{n:Nat}(h:n<a.length): ∃x,a[n]? =some x:=⟨_,An h⟩
theorem EQ(a:List Nat)(ha:Ok a)(hl:a.length≤1099511627776):CallsF Tryz.prog 298 [.c (Ag a)] (.u (.c (.d (Ag (limbs (val a)))))):=by
 rw[←Hu a ha]
 refine Aj (T:=tb) Ai mixed Tryz.func298 rfl (by decide) (Ah rfl) rfl ?_;unfold St.init
 simp
 refine AA (fun n:Nat=>⟨[(0,vC (.d (Ag a))),(3,vI .i64 n)],[]⟩) (fun n=>n≤a.length∧A9 a n=A9 a a.length) (fun n=>n) a.length
  (by simp) ⟨At _,rfl⟩ ?_
 rintro n ⟨hn,ht⟩
 cases n with
 |zero=>
  have:=ht.symm
  simp[A9]at this
  simp[this]
 |succ n=>
  obtain⟨x,hx⟩:=Fx (a:=a) (n:=n) (by omega)
  have hl:=Jc a a.length;simp[hx,u16];refine⟨by omega,by omega,fun h0=>⟨by omega,n,rfl,⟨by omega,?_⟩,by omega⟩,fun h0=>⟨by omega,?_⟩⟩
  ·rw[←ht];simp[A9,hx,h0]
  ·rw[←ht];simp[A9,hx,h0]
@[simp]theorem lst_nil{α:Type}(e:α→D):D.slice 0 []=BG e []:=rfl
theorem F6(a:List Nat)(ha:Ok a)(hl:a.length≤1099511627776):CallsF Tryz.prog 234 [.c (Ag a)] (.u (.c (.d (Ag (limbs (val a)))))):=by
 refine Aj (T:=tb) Ai mixed Tryz.func234 rfl (by decide) (Ah rfl) rfl ?_;unfold St.init
 simp
 refine .inl ⟨_,EQ a ha hl,?_⟩;have hlen:=Du a ha;generalize limbs (val a)=b at hlen;simp;refine⟨fun h=>by rw[h];rfl,fun _=>⟨by omega,by rw[Sc (by simp)];simp,by rw[Sc (by simp)];simp⟩⟩
theorem EW(a:List Nat)(ha:Ok a)(hl:a.length≤1099511627776):CallsF Tryz.prog 166 [.c (Ag a)] (.u (.c (.d (Ag (limbs (val a)))))):=by
 rw[←Hu a ha]
 refine Aj (T:=tb) Ai mixed Tryz.func166 rfl (by decide) (Ah rfl) rfl ?_;unfold St.init
 simp
 refine AA (fun n:Nat=>⟨[(0,vC (.d (Ag a))),(3,vI .i64 n)],[]⟩) (fun n=>n≤a.length∧A9 a n=A9 a a.length) (fun n=>n) a.length
  (by simp) ⟨At _,rfl⟩ ?_
 rintro n ⟨hn,ht⟩
 cases n with
 |zero=>
  have:=ht.symm
  simp[A9]at this
  simp[this]
  rfl
 |succ n=>
  obtain⟨x,hx⟩:=Fx (a:=a) (n:=n) (by omega)
  have hl:=Jc a a.length;simp[hx,u16];refine⟨by omega,by omega,fun h0=>⟨by omega,n,rfl,⟨by omega,?_⟩,by omega⟩,fun h0=>⟨by omega,by omega,?_⟩⟩
  ·rw[←ht];simp[A9,hx,h0]
  ·rw[←ht,BL hn];simp[A9,hx,h0,BG,BL hn]
theorem K3(n:Nat)(hn:n<18446744073709551616):CallsF Tryz.prog 236 [.c (.int .u64 n)] (.u (.c (.d (Ag (limbs n))))):=by
 refine Aj (T:=tb) Ai mixed Tryz.func236 rfl (by decide) (Ah rfl) rfl ?_;unfold St.init
 simp
 refine CF [(3,12)] (fun p:List Nat×Nat=>⟨[(0,vI .u64 p.2),(3,vC (.sl 3 0 p.1.length))],[(3,.row 1 (p.1.map u16) true)]⟩)
  (fun p=>limbs n=p.1++limbs p.2∧p.2<18446744073709551616∧p.1.length+(limbs p.2).length≤4) (fun p=>p.2) ([],n)
  (by simp) ⟨rfl,hn,by simpa using (I9 n).2 hn⟩ ?_
 rintro⟨l,m⟩ ⟨h1,h2,h3⟩
 by_cases hm:m=0
 ·subst hm;simp;rw[h1];simp[B3]
 ·rw[DQ hm]at h1 h3
  simp only[List.length_cons]at h1 h2 h3;simp[hm];refine fun _=>⟨by omega,l++[m%65536],m/65536,⟨⟨ZM .u64 m 16 (by decide),by simp⟩,by simp[u16]⟩,⟨by rw[h1];simp,by omega,by simp;omega⟩,by omega⟩
theorem GE(n:Nat)(hn:n<18446744073709551616):CallsF Tryz.prog 106 [.c (.int .u64 n)] (.u (.c (.d (Ag (limbs n))))):=by
 refine Aj (T:=tb) Ai mixed Tryz.func106 rfl (by decide) (Ah rfl) rfl ?_;unfold St.init
 simp
 refine CF [(3,11)] (fun p:List Nat×Nat=>⟨[(0,vI .u64 p.2),(3,vC (.sl 3 0 p.1.length))],[(3,.row 1 (p.1.map u16) true)]⟩)
  (fun p=>limbs n=p.1++limbs p.2∧p.2<18446744073709551616∧p.1.length+(limbs p.2).length≤4) (fun p=>p.2) ([],n)
  (by simp) ⟨rfl,hn,by simpa using (I9 n).2 hn⟩ ?_
 rintro⟨l,m⟩ ⟨h1,h2,h3⟩
 by_cases hm:m=0
 ·subst hm;simp;rw[h1];simp[B3]
 ·rw[DQ hm]at h1 h3
  simp only[List.length_cons]at h1 h2 h3;have e1:(m:Int).tmod 65536=((m%65536:Nat):Int):=by rw[Int.tmod_eq_emod_of_nonneg (by omega)];omega
  simp[hm,e1]
  refine fun _=>⟨by omega,l++[m%65536],m/65536,⟨⟨by omega,by simp⟩,by simp[u16];rw[show(m:Int)%65536=((m%65536:Nat):Int) by omega,jdL];omega⟩,⟨by rw[h1];simp,by omega,by simp;omega⟩,by omega⟩
theorem Zg(a:Nat):Cs a a=0:=by simp[Cs]
theorem TD{a b:Nat}(h:a<b):Cs a b= -1:=by simp[Cs,h]
theorem Q8{a b:Nat}(h:b<a):Cs a b=1:=by simp[Cs,h];omega
theorem jlF(a b:List Nat)(ha:Ok a)(hl:a.length≤1099511627776)(hb:Ok b)(hm:b.length≤1099511627776):CallsF Tryz.prog 282 [.c (Ag a),.c (Ag b)] (.u (.c (.d (.int .i64 (Cs (val a) (val b)))))):=by
 refine Aj (T:=tb) Ai mixed Tryz.func282 rfl (by decide) (Ah rfl) rfl ?_;unfold St.init
 simp
 refine .inl ⟨_,EQ a ha hl,?_⟩;simp;refine .inl ⟨_,EQ b hb hm,?_⟩
 have hla:=Du a ha;have hlb:=Du b hb;have oa:=AC (val a);have ob:=AC (val b);have va:=AB (val a);have vb:=AB (val b);have sa:=PJ (a:=val a) (b:=val b);have sb:=PJ (a:=val b) (b:=val a);generalize limbs (val a)=x at*;generalize limbs (val b)=y at*;simp;refine⟨fun hne=>⟨fun h=> ?_,fun h=> ?_⟩,fun he=> ?_⟩
 ·rw[TD (sa h)]
 ·rw[Q8 (sb (by omega))]
 refine⟨by omega,?_⟩
 refine AA (fun n:Nat=>⟨[(0,vC (.d (Ag x))),(1,vC (.d (Ag y))),(5,vI .i64 ((n:Int) - 1))],[]⟩) (fun n=>n≤x.length∧ ∀j,n≤j→x.getD j 0=y.getD j 0) (fun n=>n) x.length
  (by simp) ⟨At _,fun j hj=> ?_⟩ ?_
 ·rw[AW,AW,Dn hj,Dn (by omega)]
 rintro n ⟨hn,ht⟩
 cases n with
 |zero=>
  simp
  rw[←va,←vb,Hb x y fun j=>ht j (by omega),Zg]
 |succ n=>
  obtain⟨p,hp⟩:=Fx (a:=x) (n:=n) (by omega)
  obtain⟨q,hq⟩:=Fx (a:=y) (n:=n) (by omega)
  simp
  refine Ar (Ac [0,0,3,7,0,0,48,112,255]) [.any [] [] (Ak [[0],[5],[27,28],[29],[1],[5],[31,32],[33]]),.one] (by rfl) ?_
  simp[hp,hq,u16]
  have gp:x.getD n 0=p:=by rw[AW,hp];rfl
  have gq:y.getD n 0=q:=by rw[AW,hq];rfl
  refine⟨by omega,by omega,fun h=> ?_,fun h=> ?_⟩
  ·rw[←va,←vb,TD (Lc n x y oa ob (fun j hj=>ht j hj) (by rw[gp,gq];exact h))]
  refine Ar (Ac [0,0,3,7,0,0,48,112,255]) [.any [] [] (Ak [[0],[5],[36,37],[38],[1],[5],[40,41],[42]]),.one] (by rfl) ?_
  simp[hp,hq,u16]
  refine⟨by omega,by omega,fun h=> ?_,fun h=>⟨by omega,n,rfl,⟨by omega,?_⟩,by omega⟩⟩
  ·rw[←va,←vb,Q8 (Lc n y x ob oa (fun j hj=>(ht j hj).symm) (by rw[gp,gq];exact h))]
  ·intro j hj;rw[←AW,←AW];rcases Nat.eq_or_lt_of_le hj with h1|h1
   ·rw[←h1,gp,gq];omega
   ·exact ht j h1
theorem QV(i:Nat):65536^i=2^(16*i):=by
 rw[Nat.pow_mul]
theorem jce(m x i:Nat)(hm:m<65536^i)(hx:x<65536)(hi:i<4):Hc .u64 (m:Int) (Ho .u64 ((x%18446744073709551616:Nat):Int) ((16*i:Nat):Int))=((m+65536^i*x:Nat):Int):=by
 have hp:65536^i*65536≤18446744073709551616:=by
  rw[←If,←Nat.pow_succ]
  exact Nat.pow_le_pow_right (by omega) (by omega)
 have h1:65536^i*x+65536^i≤18446744073709551616:=by
  have:65536^i*(x+1)≤65536^i*65536:=Nat.mul_le_mul_left _ (by omega)
  rw[Nat.mul_add,Nat.mul_one]at this
  omega
 rw[Cp (a:=x) (by omega),jdo _ _ (by omega),←QV,Nat.mul_comm x,Cp (by omega),je0 _ _ (by omega) (by omega)]
 rw[QV]at hm ⊢
 rw[jfw _ _ _ hm]
def E6(n:Nat):Bool:=decide (n<18446744073709551616)
def Fp(n:Nat):Nat:=if E6 n then n else 0
theorem fits64_iff{n:Nat}:E6 n=true↔n<18446744073709551616:=by simp[E6]
theorem Xq(a:List Nat)(ha:Ok a)(hl:a.length≤1099511627776):CallsF Tryz.prog 235 [.c (Ag a)]
  (.tup [.c (.d (.int .u64 (Fp (val a)))),.c (.d (.bool (E6 (val a))))]):=by
 refine Aj (T:=tb) Ai mixed Tryz.func235 rfl (by decide) (Ah rfl) rfl ?_;unfold St.init
 simp
 refine .inl ⟨_,EQ a ha hl,?_⟩;have hla:=Du a ha;have oa:=AC (val a);have va:=AB (val a);have h4:(limbs (val a)).length≤4↔E6 (val a)=true:=by rw[fits64_iff];exact I9 (val a)
 generalize limbs (val a)=x at*;simp;refine⟨fun h=> ?_,fun h=> ?_⟩
 ·have:E6 (val a)=false:=by cases hf:E6 (val a)with|false=>rfl|true=>have:=h4.2 hf;omega
  rw[this];simp[Fp,this]
 have hv:=h4.1 (by omega)
 refine AA (fun n:Nat=>⟨[(14,vI .i64 n),(13,vI .i64 x.length),(12,vC (.d (Ag x))),(4,vI .u64 (val (x.take n):Nat))],[]⟩) (fun n=>n≤x.length) (fun n=>x.length - n) 0
  (by simp[val]) (by omega) ?_
 intro n hn;by_cases hlt:n<x.length
 ·obtain⟨p,hp⟩:=Fx hlt
  have hp':=oa.get hp;have e:x[n]? =some x[n]:=An hlt;rw[hp]at e;cases e;have hn4:n<4:=by omega
  have hb:=FP (x.take n) (oa.take n);rw[Cj,BL (by omega)]at hb
  simp[hlt,u16]
  refine⟨by omega,by omega,by omega,n+1,⟨by omega,?_⟩,by omega,by omega⟩
  rw[Jr hlt,AW,hp]
  exact jce _ _ n hb hp' hn4
 ·simp[hlt]
  rw[Bv (by omega),va]
  simp[Fp,hv]
theorem VU(a:List Nat)(ha:Ok a)(hl:a.length≤4):CallsF Tryz.prog 252 [.c (Ag a)] (.u (.c (.d (.int .u64 (val a))))):=by
 refine Aj (T:=tb) Ai mixed Tryz.func252 rfl (by decide) (Ah rfl) rfl ?_;unfold St.init
 simp
 refine⟨by omega,?_⟩
 refine AA (fun n:Nat=>⟨[(0,vC (.d (Ag a))),(3,vI .u64 (val (a.drop n):Nat)),(4,vI .i64 ((n:Int) - 1))],[]⟩) (fun n=>n≤a.length) (fun n=>n) a.length
  (by simp[val]) (At _) ?_
 intro n hn;cases n with
 |zero=>simp
 |succ n=>
  have hlt:n<a.length:=by omega
  have hp:=ha.get (An hlt);simp[hlt,u16];refine⟨by omega,n,⟨?_,rfl⟩,by omega,by omega⟩
  have hb:=FP (a.drop n) (ha.drop n);have h4:65536^(a.drop n).length≤65536^4:=Nat.pow_le_pow_right (by omega) (by simp;omega)
  rw[If]at h4
  rw[ja7 hlt,AW,An hlt]at hb ⊢
  simp only[Option.getD_some]at hb ⊢;omega
def lastOk(a:List Nat):Bool:=decide (a.getLast? ≠some 0)
theorem QF(a:List Nat)(hl:a.length≤1099511627776):CallsF Tryz.prog 103 [.c (Ag a)] (.u (.c (.d (.bool (lastOk a))))):=by
 unfold lastOk;refine Aj (T:=tb) Ai mixed Tryz.func103 rfl (by decide) (Ah rfl) rfl ?_;unfold St.init
 rcases List.eq_nil_or_concat a with rfl|⟨l,x,rfl⟩
 ·simp
 ·simp at hl;simp[u16];omega
theorem jaZ(a b:List Nat)(hl:a.length≤1099511627776):CallsF Tryz.prog 104 [.c (Ag a),.c (Ag b)] (.u (.c (.d (.bool (decide (a=b)))))):=by
 refine Aj (T:=tb) Ai mixed Tryz.func104 rfl (by decide) (Ah rfl) rfl ?_;unfold St.init
 simp
 refine⟨fun h h1=>h (by rw[h1]),fun he=> ?_⟩
 refine AA (fun n:Nat=>⟨[(0,vC (.d (Ag a))),(1,vC (.d (Ag b))),(5,vI .i64 n)],[]⟩) (fun n=>n≤a.length∧a.take n=b.take n) (fun n=>a.length - n) 0
  (by simp) ⟨Nat.zero_le _,rfl⟩ ?_
 rintro n ⟨hn,ht⟩
 by_cases hlt:n<a.length
 ·have hlt':n<b.length:=by omega
  simp[hlt]
  refine Ar (Ac [0,0,3,7,0,0,48,112,255]) [.any [] [] (Ak [[0],[5],[17,18],[19],[1],[5],[21,22],[23]]),.one] (by rfl) ?_
  simp[hlt,hlt',u16]
  refine⟨fun h1 h2=>h1 (by subst h2;rfl),fun h1=>⟨by omega,n+1,by omega,⟨by omega,?_⟩,by omega⟩⟩
  rw[List.take_add_one,List.take_add_one,ht,An hlt,An hlt']
  have:a[n]=b[n]:=by omega
  rw[this]
 ·simp[hlt]
  rwa [Bv (by omega),Bv (by omega)]at ht
theorem IA(a:List Nat):CallsF Tryz.prog 161 [.c (Ag a)] (.u (.c (.d (.bool (decide (a=[1])))))):=by
 refine Aj (T:=tb) Ai mixed Tryz.func161 rfl (by decide) (Ah rfl) rfl ?_;unfold St.init
 cases a with
 |nil=>simp
 |cons x a=>
  simp[u16]
  have e1:decide ((a.length:Int)+1=1)=decide (a=[]):=by
   rw[decide_eq_decide,←jzv];omega
  have e2:decide ((x:Int)=1)=decide (x=1):=by rw[decide_eq_decide];omega
  rw[e1,e2,Bool.and_comm]
theorem HV:CallsF Tryz.prog 202 [] (.u (.c (.d (Ag [1])))):=by
 refine Aj (T:=tb) Ai mixed Tryz.func202 rfl (by decide) (Ah rfl) rfl ?_;unfold St.init
 simp
 rfl
end Go.Va
namespace Go.Va
theorem jdH{p c o x y v v' V:Nat}(h:v+p*c=V)(hs:v'+p*o=v+p*((c+(o+x*y))%65536)):
  v'+p*65536*((c+(o+x*y))/65536)=V+p*(x*y):=by
 have h1:=Nat.div_add_mod (c+(o+x*y)) 65536;generalize (c+(o+x*y))/65536=q at*;generalize (c+(o+x*y))%65536=r at*;have h2:p*65536*q+p*r=p*c+p*o+p*(x*y):=by
  rw[Nat.mul_assoc,←Nat.mul_add,h1,Nat.mul_add,Nat.mul_add];omega
 omega
end Go.Va
