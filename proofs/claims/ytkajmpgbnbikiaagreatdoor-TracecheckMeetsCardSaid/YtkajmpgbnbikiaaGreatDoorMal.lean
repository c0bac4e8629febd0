/- a part of the proof -/
import Derived.Test.YtkajmpgbnbikiaaGreatDoorMaa
import Derived.Test.YtkajmpgbnbikiaaGreatDoorMaj
import Derived.Test.YtkajmpgbnbikiaaGreatDoorMak
set_option linter.all false
set_option maxHeartbeats 4000000
namespace Go.Va
def val:List Nat→Nat
 |[]=>0
 |x::r=>x+65536*val r
def Ok(a:List Nat):Prop:= ∀x∈a,x<65536
def Fs:Nat→Nat→List Nat
 |0,_=>[]
 |k+1,n=>if n=0 then [] else n%65536::Fs k (n/65536)
def limbs(n:Nat):List Nat:=Fs n n
theorem Ok.nil:Ok []:=fun x h=>by cases h
theorem Ok.cons{x:Nat}{a:List Nat}(hx:x<65536)(h:Ok a):Ok (x::a):=fun y hy=>by
 rcases jzn.1 hy with rfl|hy
 ·exact hx
 ·exact h y hy
theorem Ok.head{x:Nat}{a:List Nat}(h:Ok (x::a)):x<65536:=h x (by simp)
theorem Ok.tail{x:Nat}{a:List Nat}(h:Ok (x::a)):Ok a:=fun y hy=>h y (by simp[hy])
theorem Ok.get{a:List Nat}(h:Ok a){i x:Nat}(hx:a[i]? =some x):x<65536:=h x (BB hx)
theorem Ok.app{a b:List Nat}(h:Ok a)(h':Ok b):Ok (a++b):=fun x hx=>by
 rcases List.mem_append.1 hx with h1|h1
 ·exact h x h1
 ·exact h' x h1
theorem Ok.take{a:List Nat}(h:Ok a)(n:Nat):Ok (a.take n):=fun x hx=>h x (List.mem_of_mem_take hx)
theorem Ok.drop{a:List Nat}(h:Ok a)(n:Nat):Ok (a.drop n):=fun x hx=>h x (List.mem_of_mem_drop hx)
theorem Ok.set{a:List Nat}(h:Ok a)(n:Nat){x:Nat}(hx:x<65536):Ok (a.set n x):=fun y hy=>by
 rcases List.mem_or_eq_of_mem_set hy with h1|h1
 ·exact h y h1
 ·omega
theorem Pt: ∀(k m n:Nat),n≤k→n≤m→Fs k n=Fs m n
 |0,0,_,_,_=>rfl
 |0,m+1,n,h,_=>by
  have:n=0:=by omega
  simp[Fs,this]
 |k+1,0,n,_,h=>by
  have:n=0:=by omega
  simp[Fs,this]
 |k+1,m+1,n,h1,h2=>by
  unfold Fs;by_cases h:n=0
  ·simp[h]
  ·rw[if_neg h,if_neg h,Pt k m (n/65536) (by omega) (by omega)]
theorem Cc:limbs 0=[]:=rfl
theorem Eo{n:Nat}(h:n≠0):limbs n=n%65536::limbs (n/65536):=by
 obtain⟨k,rfl⟩: ∃k,n=k+1:=⟨n - 1,by omega⟩
 unfold limbs;rw[←Pt k _ ((k+1)/65536) (by omega) (Az _)]
 rfl
theorem Z3(n:Nat):limbs n=if n=0 then [] else n%65536::limbs (n/65536):=by
 by_cases h:n=0
 ·subst h;rfl
 ·rw[if_neg h,Eo h]
theorem Lm{x m:Nat}(hx:x<65536)(h:x+65536*m≠0):limbs (x+65536*m)=x::limbs m:=by
 rw[Eo h]
 congr 1
 ·omega
 ·congr 1;omega
theorem Ao(n:Nat):val (limbs n)=n:=by
 induction n using Nat.strongRecOn with
 |_ n ih=>
  by_cases h:n=0
  ·subst h;rfl
  ·rw[Eo h,val,ih (n/65536) (by omega)];omega
theorem An(n:Nat):Ok (limbs n):=by
 induction n using Nat.strongRecOn with
 |_ n ih=>
  by_cases h:n=0
  ·subst h;exact Ok.nil
  ·rw[Eo h];exact Ok.cons (by omega) (ih _ (by omega))
theorem limbs_nil{n:Nat}:limbs n=[]↔n=0:=by
 constructor
 ·intro h;have:=Ao n;rw[h]at this;exact this.symm
 ·rintro rfl;rfl
theorem SK(n:Nat):(limbs n).length=0↔n=0:=by rw[jzv,limbs_nil]
theorem KK:val []=0:=rfl
theorem CX(a b:List Nat):val (a++b)=val a+65536^a.length*val b:=by
 induction a with
 |nil=>simp[val]
 |cons x a ih=>simp only[List.cons_append,val,ih,List.length_cons,Nat.pow_succ];rw[Nat.mul_add,Nat.mul_comm (65536^a.length) 65536,Nat.mul_assoc,Nat.add_assoc]
theorem Qq(k:Nat):val (List.replicate k 0)=0:=by
 induction k with
 |zero=>rfl
 |succ k ih=>rw[List.replicate_succ,val,ih]
theorem Bn: ∀(a:List Nat),Ok a→val a<65536^a.length
 |[],_=>by simp[val]
 |x::a,h=>by
  have:=Bn a h.tail
  have:=h.head
  rw[List.length_cons,Nat.pow_succ,val]
  omega
theorem Bg: ∀(a:List Nat),Ok a→(limbs (val a)).length≤a.length
 |[],_=>by simp[val,Cc]
 |x::a,h=>by
  have ih:=Bg a h.tail;by_cases h0:x+65536*val a=0
  ·rw[val,h0,Cc];simp
  ·rw[val,Lm h.head h0];simpa using ih
theorem Dq{m n:Nat}(h:m≤n):(limbs m).length≤(limbs n).length:=by
 induction n using Nat.strongRecOn generalizing m with
 |_ n ih=>
  by_cases hm:m=0
  ·subst hm;simp[Cc]
  ·rw[Eo hm,Eo (n:=n) (by omega)]
   have:= @ih (n/65536) (by omega) (m/65536) (by omega)
   simpa using this
theorem EX(n k:Nat)(h:n<65536^k):(limbs n).length≤k:=by
 induction k generalizing n with
 |zero=>
  have:n=0:=by simpa using h
  subst this;simp[Cc]
 |succ k ih=>
  by_cases h0:n=0
  ·subst h0;simp[Cc]
  ·rw[Eo h0]
   have:n/65536<65536^k:=by
    rw[Nat.pow_succ]at h
    exact Nat.div_lt_of_lt_mul (by rw[Nat.mul_comm];exact h)
   simpa using ih _ this
theorem jad{n k:Nat}(h:k<(limbs n).length):65536^k≤n:=by
 rcases Nat.lt_or_ge n (65536^k)with h1|h1
 ·have:=EX n k h1;omega
 ·exact h1
theorem KV:65536^4=18446744073709551616:=by simp
theorem Hz(n:Nat):(limbs n).length≤4↔n<18446744073709551616:=by
 rw[←KV]
 constructor
 ·intro h;have:=Bn _ (An n);rw[Ao]at this;exact Nat.lt_of_lt_of_le this (Nat.pow_le_pow_right (by omega) h)
 ·exact EX n 4
def Bd:List Nat→Nat→Nat
 |_,0=>0
 |a,n+1=>if a.getD n 0=0 then Bd a n else n+1
theorem FD(a:List Nat): ∀n,Bd a n≤n
 |0=>Az _
 |n+1=>by
  unfold Bd;split
  ·exact Nat.le_succ_of_le (FD a n)
  ·exact Az _
theorem O9(x:Nat)(a:List Nat): ∀n,Bd (x::a) (n+1)=if Bd a n=0 then (if x=0 then 0 else 1) else Bd a n+1
 |0=>by simp[Bd]
 |n+1=>by
  rw[Bd,O9 x a n]
  simp only[List.getD_cons_succ];rw[Bd];by_cases h:a.getD n 0=0
  ·rw[if_pos h,if_pos h]
  ·rw[if_neg h,if_neg h];simp
theorem Gk: ∀(a:List Nat),Ok a→a.take (Bd a a.length)=limbs (val a)
 |[],_=>rfl
 |x::a,h=>by
  have ih:=Gk a h.tail;rw[List.length_cons,O9,val];by_cases h0:Bd a a.length=0
  ·rw[h0]at ih
   simp only[List.take_zero]at ih;have hv:val a=0:=limbs_nil.1 ih.symm;rw[if_pos h0,hv];by_cases hx:x=0
   ·subst hx;rfl
   ·rw[if_neg hx]
    simp only[List.take_succ_cons,List.take_zero,Nat.mul_zero,Nat.add_zero];have:=Lm (x:=x) (m:=0) h.head (by omega)
    simpa [Cc]using this.symm
  ·rw[if_neg h0,List.take_succ_cons,ih]
   have hv:val a≠0:=fun h1=>by
    rw[h1,Cc,List.take_eq_nil_iff]at ih
    rcases ih with h2|h2
    ·exact h0 h2
    ·subst h2;simp[Bd]at h0
   exact(Lm h.head (by omega)).symm
theorem Hp: ∀(a b:List Nat),(∀j,a.getD j 0=b.getD j 0)→val a=val b
 |[],[],_=>rfl
 |[],y::b,h=>by
  have h0:=h 0;simp at h0;have:=Hp [] b fun j=>by simpa using h (j+1)
  have e:val (y::b)=y+65536*val b:=rfl
  rw[e,←h0,←this];rfl
 |x::a,[],h=>by
  have h0:=h 0;simp at h0;have:=Hp a [] fun j=>by simpa using h (j+1)
  have e:val (x::a)=x+65536*val a:=rfl
  rw[e,h0,this];rfl
 |x::a,y::b,h=>by
  have h0:=h 0;simp at h0;have:=Hp a b fun j=>by simpa using h (j+1)
  rw[val,val,h0,this]
theorem HU{a:List Nat}(h:Ok a)(i:Nat):a.getD i 0<65536:=by
 rw[Ax]
 cases hx:a[i]? with
 |none=>simp
 |some x=>exact h.get hx
theorem JX(a:List Nat):val a=a.getD 0 0+65536*val a.tail:=by
 cases a with
 |nil=>rfl
 |cons x a=>rfl
theorem Oy{a:List Nat}(h:Ok a):Ok a.tail:=by
 cases a with
 |nil=>exact h
 |cons x a=>exact h.tail
theorem Hq(a:List Nat)(j:Nat):a.tail.getD j 0=a.getD (j+1) 0:=by
 cases a<;>simp
theorem Ij: ∀(i:Nat) (a b:List Nat),Ok a→Ok b→(∀j,i<j→a.getD j 0=b.getD j 0)→a.getD i 0<b.getD i 0→val a<val b
 |0,a,b,ha,hb,h,hl=>by
  have:=Hp a.tail b.tail fun j=>by rw[Hq,Hq];exact h (j+1) (by omega)
  rw[JX a,JX b,this]
  omega
 |i+1,a,b,ha,hb,h,hl=>by
  have:=Ij i a.tail b.tail (Oy ha) (Oy hb) (fun j hj=>by rw[Hq,Hq];exact h (j+1) (by omega)) (by rw[Hq,Hq];exact hl)
  have:=HU ha 0
  rw[JX a,JX b]
  omega
def cmp3(a b:Nat):Int:=if a<b then -1 else if b<a then 1 else 0
def cmpZ(a b:Int):Int:=if a<b then -1 else if b<a then 1 else 0
theorem R1{a b:Nat}(h:(limbs a).length<(limbs b).length):a<b:=by
 rcases Nat.lt_or_ge a b with h1|h1
 ·exact h1
 ·have:=Dq h1;omega
theorem XU{a:List Nat}{i:Nat}(h:i<a.length):a[i]? =some (a.getD i 0):=by
 rw[Ax,Am h];rfl
theorem VY{a:List Nat}{i:Nat}(h:i<a.length):a.take (i+1)=a.take i++[a.getD i 0]:=by
 rw[List.take_add_one,XU h];rfl
theorem Je(a:List Nat)(x:Nat):val (a++[x])=val a+65536^a.length*x:=by rw[CX];simp[val]
theorem Dh{a:List Nat}{i:Nat}(h:i<a.length):val (a.take (i+1))=val (a.take i)+65536^i*a.getD i 0:=by
 rw[VY h,Je,AP,A7 (by omega)]
theorem jbv{a:List Nat}{i:Nat}(h:i<a.length):val (a.drop i)=a.getD i 0+65536*val (a.drop (i+1)):=by
 rw[AX h,val,Ax,Am h];rfl
theorem HQ: ∀{a:List Nat} {i x:Nat},i<a.length→val (a.set i x)+65536^i*a.getD i 0=val a+65536^i*x
 |[],_,_,h=>by simp at h
 |y::a,0,x,_=>by simp[val];omega
 |y::a,i+1,x,h=>by
  have ih:=HQ (a:=a) (i:=i) (x:=x) (by simpa using h)
  simp only[List.set_cons_succ,val,List.getD_cons_succ,Nat.pow_succ];have e1:65536^i*65536*a.getD i 0=65536*(65536^i*a.getD i 0):=by rw[Nat.mul_comm (65536^i),Nat.mul_assoc]
  have e2:65536^i*65536*x=65536*(65536^i*x):=by rw[Nat.mul_comm (65536^i),Nat.mul_assoc]
  rw[e1,e2]
  omega
section
variable {α:Type}
def Cl(e:α→D)(l:List α):D:= .slice l.length (l.map e)
def u16(x:Nat):D:= .int .u16 x
def i64(x:Int):D:= .int .i64 x
abbrev Ac(a:List Nat):D:=Cl u16 a
abbrev intsD(a:List Int):D:=Cl i64 a
@[simp]theorem lenC_lst(e:α→D)(l:List α):lenC (.d (Cl e l))=some l.length:=rfl
@[simp]theorem jkF(h:List (Nat×Blk))(i:Int)(e:α→D)(l:List α):idxSl h 1 i (.d (Cl e l))=if 0≤i∧i<l.length then some (.d (.ref ((l.drop i.toNat).map e))) else none:=by
 unfold Cl idxSl;simp only[List.length_map,Nat.mul_one,and_true,List.map_drop]
@[simp]theorem src_lst(j:TI)(e:α→D)(l:List α)(st:St)(hj:j.size=1):st.src j (.d (Cl e l))=some (l.length,l.map e):=by
 unfold Cl St.src;simp[hj]
@[simp]theorem jlj(h:List (Nat×Blk))(e:α→D)(l:List α)(k:Int):sliceV h (.d (Cl e l)) none (some k) 1=if 0≤k∧k≤l.length then some (.d (Cl e (l.take k.toNat))) else none:=by
 unfold Cl sliceV Fe;simp only[List.length_map,Nat.mul_one,if_true,Option.getD_none,Option.getD_some,Int.toNat_zero,Nat.sub_zero];by_cases hk:0≤k∧k≤l.length
 ·rw[if_pos hk,if_pos (by omega)]
  simp[AA]
  omega
 ·rw[if_neg hk,if_neg (by omega)]
@[simp]theorem flat_lst(e:α→D)(l:List α):D.flat (Cl e l)=false:=rfl
@[simp high]theorem jc8(e:α→D)(l:List α)(n:Nat)(v:α)(h:n<l.length):splice n [e v] (l.map e)=(l.set n v).map e:=by
 unfold splice
 apply List.ext_getElem?
 intro k;simp only[List.map_set,List.getElem?_set,List.length_map,List.length_singleton];by_cases hk:k<n
 ·rw[List.append_assoc,List.getElem?_append_left (by simp;omega),if_neg (by omega),List.getElem?_take,if_pos hk]
 ·by_cases he:k=n
  ·subst he;rw[if_pos rfl,if_pos (by omega),List.append_assoc,List.getElem?_append_right (by simp;omega)]
   simp[A7 (Nat.le_of_lt h)]
  ·rw[if_neg (fun h=>he h.symm),List.getElem?_append_right (by simp;omega),List.getElem?_drop]
   congr 1
   simp
   omega
theorem SN{α:Type}{new l:List α}(h:new.length=l.length):splice 0 new l=new:=by
 unfold splice;rw[List.take_zero,Nat.zero_add,Cg (by omega)]
 simp
@[simp high]theorem rep_u16(n:Nat):rep n [D.int .u16 0]=(List.replicate n 0).map u16:=by
 induction n with
 |zero=>rfl
 |succ n ih=>rw[rep,ih,List.replicate_succ];rfl
@[simp]theorem rep_one(e:α→D)(n:Nat)(z:α):rep n [e z]=(List.replicate n z).map e:=by
 induction n with
 |zero=>rfl
 |succ n ih=>rw[rep,ih,List.replicate_succ];rfl
end
@[simp]theorem jkH{α β:Type}(e:α→β)(l:List α):(l.map e).take l.length=l.map e:=AH (by simp)
@[simp]theorem jkK{α:Type}(n:Nat)(l:List α):(l.take n).take n=l.take n:=by rw[List.take_take,Nat.min_self]
theorem Lv{n:Int}(h: -9223372036854775808≤n∧n≤9223372036854775807):IntKind.i64.wrap n=n:=by
 have e:IntKind.i64.wrap n=if n%2^64≥2^(64 - 1) then n%2^64 - 2^64 else n%2^64:=by
  unfold IntKind.wrap;simp[IntKind.signed,IntKind.bits]
 rw[e]
 split<;>omega
@[simp]theorem jkB{n:Nat}(h:n<65536):IntKind.i64.wrap (n:Int)=n:=Lv (by omega)
@[simp]theorem wrap_u8(n:Nat):IntKind.u8.wrap (n:Int)=((n%256:Nat):Int):=by simp[IntKind.wrap,IntKind.signed,IntKind.bits]
@[simp]theorem ZV(n:Nat):IntKind.u16.wrap (n:Int)=((n%65536:Nat):Int):=by simp[IntKind.wrap,IntKind.signed,IntKind.bits]
@[simp]theorem PS(n:Nat):IntKind.u32.wrap (n:Int)=((n%4294967296:Nat):Int):=by simp[IntKind.wrap,IntKind.signed,IntKind.bits]
@[simp]theorem OC(n:Nat):IntKind.u64.wrap (n:Int)=((n%18446744073709551616:Nat):Int):=by simp[IntKind.wrap,IntKind.signed,IntKind.bits]
theorem ME(k:IntKind)(a n:Nat)(h:n≤k.bits):Gw k (a:Int) (n:Int)=((a/2^n:Nat):Int):=by
 unfold Gw;rw[Int.toNat_natCast,A7 h,Int.fdiv_eq_ediv_of_nonneg _ (by exact_mod_cast Nat.zero_le _)]
 simp
theorem P7(a n:Nat)(h:n≤64):C6 .u64 (a:Int) (n:Int)=((a*2^n%18446744073709551616:Nat):Int):=by
 unfold C6;rw[Int.toNat_natCast,A7 (show n≤IntKind.u64.bits from h),←OC]
 congr 1
theorem M7(a n:Nat)(h:n≤32):C6 .u32 (a:Int) (n:Int)=((a*2^n%4294967296:Nat):Int):=by
 unfold C6;rw[Int.toNat_natCast,A7 (show n≤IntKind.u32.bits from h),←PS]
 congr 1
theorem P3(a b:Nat)(ha:a<18446744073709551616)(hb:b<18446744073709551616):Dr .u64 (a:Int) (b:Int)=((a|||b:Nat):Int):=by
 unfold Dr
 show IntKind.u64.wrap (((BitVec.ofInt 64 (a:Int)|||BitVec.ofInt 64 (b:Int)).toNat:Nat):Int)=_
 have hl:a|||b<2^64:=Nat.or_lt_two_pow (n:=64) ha hb
 rw[OC,BitVec.ofInt_natCast,BitVec.ofInt_natCast,BitVec.toNat_or,BitVec.toNat_ofNat,BitVec.toNat_ofNat,AI (a:=a) ha,AI (a:=b) hb,AI (a:=a|||b) hl]
theorem O6(a b:Nat)(ha:a<4294967296)(hb:b<4294967296):Dr .u32 (a:Int) (b:Int)=((a|||b:Nat):Int):=by
 unfold Dr
 show IntKind.u32.wrap (((BitVec.ofInt 32 (a:Int)|||BitVec.ofInt 32 (b:Int)).toNat:Nat):Int)=_
 have hl:a|||b<2^32:=Nat.or_lt_two_pow (n:=32) ha hb
 rw[PS,BitVec.ofInt_natCast,BitVec.ofInt_natCast,BitVec.toNat_or,BitVec.toNat_ofNat,BitVec.toNat_ofNat,AI (a:=a) ha,AI (a:=b) hb,AI (a:=a|||b) hl]
theorem Ic(m x n:Nat)(hm:m<2^n):m|||2^n*x=m+2^n*x:=by
 rw[Nat.or_comm,←Nat.two_pow_add_eq_or_of_lt hm,Nat.add_comm]
section
variable (a b n:Nat)
theorem Vd:(a:Int)+(b:Int)=((a+b:Nat):Int):=rfl
theorem XE{c:Int}(h:0≤c):(a:Int)+c=((a+c.toNat:Nat):Int):=by omega
theorem YR{c:Int}(h:0≤c):c+(a:Int)=((c.toNat+a:Nat):Int):=by omega
theorem jcF:(a:Int)*(b:Int)=((a*b:Nat):Int):=rfl
theorem jh1{c:Int}(h:0≤c):(a:Int)*c=((a*c.toNat:Nat):Int):=by
 obtain⟨n,rfl⟩:=Int.eq_ofNat_of_zero_le h;rfl
theorem jdo{c:Int}(h:0≤c):c*(a:Int)=((c.toNat*a:Nat):Int):=by
 obtain⟨n,rfl⟩:=Int.eq_ofNat_of_zero_le h;rfl
theorem RM:(a:Int)%(b:Int)=((a%b:Nat):Int):=(Int.natCast_emod a b).symm
theorem Xa{c:Int}(h:0≤c):(a:Int)%c=((a%c.toNat:Nat):Int):=by
 obtain⟨n,rfl⟩:=Int.eq_ofNat_of_zero_le h;exact RM a n
theorem Tg:(a:Int).tmod (b:Int)=((a%b:Nat):Int):=by rw[Int.tmod_eq_emod_of_nonneg (Int.natCast_nonneg a),Int.natCast_emod]
theorem je4{c:Int}(h:0≤c):(a:Int).tmod c=((a%c.toNat:Nat):Int):=by
 obtain⟨n,rfl⟩:=Int.eq_ofNat_of_zero_le h;exact Tg a n
theorem PU:(a:Int).tdiv (b:Int)=((a/b:Nat):Int):=by rw[Int.tdiv_eq_ediv_of_nonneg (Int.natCast_nonneg a),Int.natCast_ediv]
theorem jer{c:Int}(h:0≤c):(a:Int).tdiv c=((a/c.toNat:Nat):Int):=by
 obtain⟨n,rfl⟩:=Int.eq_ofNat_of_zero_le h;exact PU a n
theorem OD:(a:Int)/(b:Int)=((a/b:Nat):Int):=(Int.natCast_ediv a b).symm
theorem jgF{c:Int}(h:0≤c):(a:Int)/c=((a/c.toNat:Nat):Int):=by
 obtain⟨n,rfl⟩:=Int.eq_ofNat_of_zero_le h;exact OD a n
theorem jcd(k:IntKind){c:Int}(h:0≤c):Gw k (a:Int) c=((a/2^min c.toNat k.bits:Nat):Int):=by
 unfold Gw;rw[Int.fdiv_eq_ediv_of_nonneg _ (Int.pow_nonneg (by omega))]
 simp
theorem jbB:((n+1:Nat):Int) - 1=(n:Int):=by omega
theorem jcT{c:Int}(h:0≤c):((a:Int)≤c)=(a≤c.toNat):=propext ⟨fun _=>by omega,fun _=>by omega⟩
theorem jhu{c:Int}(h:0≤c):(c≤(a:Int))=(c.toNat≤a):=propext ⟨fun _=>by omega,fun _=>by omega⟩
theorem Ya{c:Int}(h:0≤c):((a:Int)<c)=(a<c.toNat):=propext ⟨fun _=>by omega,fun _=>by omega⟩
theorem jfb{c:Int}(h:0≤c):(c<(a:Int))=(c.toNat<a):=propext ⟨fun _=>by omega,fun _=>by omega⟩
theorem VT{c:Int}(h:0≤c):((a:Int)=c)=(a=c.toNat):=propext ⟨fun _=>by omega,fun _=>by omega⟩
theorem jhN{c:Int}(h:0≤c):(c=(a:Int))=(c.toNat=a):=propext ⟨fun _=>by omega,fun _=>by omega⟩
theorem Vn:((a:Int)=(b:Int))=(a=b):=propext Int.ofNat_inj
theorem jc0{c:Int}(h:c≤0):(c≤(a:Int))=True:=eq_true (by omega)
theorem ji7:((0:Int)≤(a:Int))=True:=eq_true (Int.natCast_nonneg a)
end
@[simp]theorem lst_fold{α:Type}(e:α→D)(l:List α):D.slice l.length (l.map e)=Cl e l:=rfl
theorem jg4(l:List Nat)(n v:Nat):(l.map u16).set n (D.int .u16 (v:Int))=(l.set n v).map u16:=by rw[List.map_set];rfl
theorem IT:u16 0=D.int .u16 0:=rfl
@[simp high]theorem jlc(n v:Nat)(l:List Nat)(h:n<l.length):splice n [D.int .u16 (v:Int)] (l.map u16)=(l.set n v).map u16:=jc8 u16 l n v h
theorem jJ:(∀a b:Nat,(a:Int)+(b:Int)=((a+b:Nat):Int))∧(∀a b:Nat,(a:Int)*(b:Int)=((a*b:Nat):Int))∧
(∀(l:List Nat) (n v:Nat),(l.map u16).set n (D.int .u16 (v:Int))=(l.set n v).map u16)∧
(∀(a:Nat) (c:Int),0≤c→(a:Int)+c=((a+c.toNat:Nat):Int))∧
(∀(a:Nat) (c:Int),0≤c→c+(a:Int)=((c.toNat+a:Nat):Int))∧
(∀(a:Nat) (c:Int),0≤c→(a:Int)*c=((a*c.toNat:Nat):Int))∧
(∀(a:Nat) (c:Int),0≤c→c*(a:Int)=((c.toNat*a:Nat):Int))∧
(∀a b:Nat,(a:Int)%(b:Int)=((a%b:Nat):Int))∧
(∀(a:Nat) (c:Int),0≤c→(a:Int)%c=((a%c.toNat:Nat):Int))∧
(∀a b:Nat,(a:Int).tmod (b:Int)=((a%b:Nat):Int))∧
(∀(a:Nat) (c:Int),0≤c→(a:Int).tmod c=((a%c.toNat:Nat):Int))∧
(∀a b:Nat,(a:Int).tdiv (b:Int)=((a/b:Nat):Int))∧
(∀(a:Nat) (c:Int),0≤c→(a:Int).tdiv c=((a/c.toNat:Nat):Int))∧
(∀a b:Nat,(a:Int)/(b:Int)=((a/b:Nat):Int))∧
(∀(a:Nat) (c:Int),0≤c→(a:Int)/c=((a/c.toNat:Nat):Int))∧
(∀(k:IntKind) (a:Nat) (c:Int),0≤c→Gw k (a:Int) c=((a/2^min c.toNat k.bits:Nat):Int))∧
(∀n:Nat,((n+1:Nat):Int) - 1=(n:Int))∧
(∀(a:Nat) (c:Int),0≤c→((a:Int)≤c)=(a≤c.toNat))∧
(∀(a:Nat) (c:Int),0≤c→(c≤(a:Int))=(c.toNat≤a))∧
(∀(a:Nat) (c:Int),0≤c→((a:Int)<c)=(a<c.toNat))∧
(∀(a:Nat) (c:Int),0≤c→(c<(a:Int))=(c.toNat<a))∧
(∀(a:Nat) (c:Int),0≤c→((a:Int)=c)=(a=c.toNat))∧
(∀(a:Nat) (c:Int),0≤c→(c=(a:Int))=(c.toNat=a))∧
(∀a b:Nat,((a:Int)=(b:Int))=(a=b))∧
(∀(a:Nat) (c:Int),c≤0→(c≤(a:Int))=True)∧
(∀a:Nat,((0:Int)≤(a:Int))=True):=
⟨Vd,jcF,jg4,fun a _ h=>XE a h,fun a _ h=>YR a h,fun a _ h=>jh1 a h,fun a _ h=>jdo a h,RM,fun a _ h=>Xa a h,Tg,fun a _ h=>je4 a h,PU,fun a _ h=>jer a h,OD,fun a _ h=>jgF a h,fun k a _ h=>jcd a k h,jbB,fun a _ h=>jcT a h,fun a _ h=>jhu a h,fun a _ h=>Ya a h,fun a _ h=>jfb a h,fun a _ h=>VT a h,fun a _ h=>jhN a h,Vn,fun a _ h=>jc0 a h,ji7⟩
end Go.Va
namespace Go.Va
open Go.Proofs
theorem EN{α:Type}{a:List α}{n:Nat}(h:n<a.length): ∃x,a[n]? =some x:=⟨_,Am h⟩
theorem BP(a:List Nat)(ha:Ok a)(hl:a.length≤1099511627776):CallsF Tryz.prog 298 [.c (Ac a)] (.u (.c (.d (Ac (limbs (val a)))))):=by
 rw[←Gk a ha]
 refine Ak (T:=tb) Ah mixed Tryz.func298 rfl (by decide) (Af rfl) rfl ?_;unfold St.init
 simp
 refine AF (fun n:Nat=>⟨[(0,vC (.d (Ac a))),(3,vI .i64 n)],[]⟩) (fun n=>n≤a.length∧Bd a n=Bd a a.length) (fun n=>n) a.length
  (by simp) ⟨Az _,rfl⟩ ?_
 rintro n ⟨hn,ht⟩
 cases n with
 |zero=>
  have:=ht.symm
  simp[Bd]at this
  simp[this]
 |succ n=>
  obtain⟨x,hx⟩:=EN (a:=a) (n:=n) (by omega)
  have hl:=FD a a.length;simp[hx,u16];refine⟨by omega,by omega,fun h0=>⟨by omega,n,rfl,⟨by omega,?_⟩,by omega⟩,fun h0=>⟨by omega,?_⟩⟩
  ·rw[←ht];simp[Bd,hx,h0]
  ·rw[←ht];simp[Bd,hx,h0]
@[simp]theorem lst_nil{α:Type}(e:α→D):D.slice 0 []=Cl e []:=rfl
theorem DE(a:List Nat)(ha:Ok a)(hl:a.length≤1099511627776):CallsF Tryz.prog 234 [.c (Ac a)] (.u (.c (.d (Ac (limbs (val a)))))):=by
 refine Ak (T:=tb) Ah mixed Tryz.func234 rfl (by decide) (Af rfl) rfl ?_;unfold St.init
 simp
 refine .inl ⟨_,BP a ha hl,?_⟩;have hlen:=Bg a ha;generalize limbs (val a)=b at hlen;simp;refine⟨fun h=>by rw[h];rfl,fun _=>⟨by omega,by rw[SN (by simp)];simp,by rw[SN (by simp)];simp⟩⟩
theorem B6(a:List Nat)(ha:Ok a)(hl:a.length≤1099511627776):CallsF Tryz.prog 166 [.c (Ac a)] (.u (.c (.d (Ac (limbs (val a)))))):=by
 rw[←Gk a ha]
 refine Ak (T:=tb) Ah mixed Tryz.func166 rfl (by decide) (Af rfl) rfl ?_;unfold St.init
 simp
 refine AF (fun n:Nat=>⟨[(0,vC (.d (Ac a))),(3,vI .i64 n)],[]⟩) (fun n=>n≤a.length∧Bd a n=Bd a a.length) (fun n=>n) a.length
  (by simp) ⟨Az _,rfl⟩ ?_
 rintro n ⟨hn,ht⟩
 cases n with
 |zero=>
  have:=ht.symm
  simp[Bd]at this
  simp[this]
  rfl
 |succ n=>
  obtain⟨x,hx⟩:=EN (a:=a) (n:=n) (by omega)
  have hl:=FD a a.length;simp[hx,u16];refine⟨by omega,by omega,fun h0=>⟨by omega,n,rfl,⟨by omega,?_⟩,by omega⟩,fun h0=>⟨by omega,by omega,?_⟩⟩
  ·rw[←ht];simp[Bd,hx,h0]
  ·rw[←ht,A7 hn];simp[Bd,hx,h0,Cl,A7 hn]
theorem Ez(a:List Nat)(ha:Ok a)(i:Nat)(hi:i≤1099511627776):CallsF Tryz.prog 229 [.c (Ac a),.c (.int .i64 i)] (.u (.c (.d (.int .i64 (a.getD i 0))))):=by
 refine Ak (T:=tb) Ah mixed Tryz.func229 rfl (by decide) (Af rfl) rfl ?_;unfold St.init
 by_cases h:i<a.length
 ·have hx':=ha.get (Am h);simp[u16,h,hx']
 ·simp[h]
end Go.Va
