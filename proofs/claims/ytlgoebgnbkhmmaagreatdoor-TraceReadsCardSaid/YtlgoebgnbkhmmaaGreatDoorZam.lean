/- a part of the proof -/
import Derived.Test.YtlgoebgnbkhmmaaGreatDoorZaa
import Derived.Test.YtlgoebgnbkhmmaaGreatDoorZak
import Derived.Test.YtlgoebgnbkhmmaaGreatDoorZal
set_option linter.all false
set_option maxHeartbeats 4000000
namespace Go.Va
def val:List Nat→Nat
 |[]=>0
 |x::r=>x+65536*val r
def Ok(a:List Nat):Prop:= ∀x∈a,x<65536
def FQ:Nat→Nat→List Nat
 |0,_=>[]
 |k+1,n=>if n=0 then [] else n%65536::FQ k (n/65536)
def limbs(n:Nat):List Nat:=FQ n n
theorem Ok.nil:Ok []:=fun x h=>by cases h
theorem Ok.cons{x:Nat}{a:List Nat}(hx:x<65536)(h:Ok a):Ok (x::a):=fun y hy=>by
 rcases jzn.1 hy with rfl|hy
 ·exact hx
 ·exact h y hy
theorem Ok.head{x:Nat}{a:List Nat}(h:Ok (x::a)):x<65536:=h x (by simp)
theorem Ok.tail{x:Nat}{a:List Nat}(h:Ok (x::a)):Ok a:=fun y hy=>h y (by simp[hy])
theorem Ok.get{a:List Nat}(h:Ok a){i x:Nat}(hx:a[i]? =some x):x<65536:=h x (by grind)
theorem Ok.app{a b:List Nat}(h:Ok a)(h':Ok b):Ok (a++b):=fun x hx=>by
 rcases List.mem_append.1 hx with h1|h1
 ·exact h x h1
 ·exact h' x h1
theorem Ok.take{a:List Nat}(h:Ok a)(n:Nat):Ok (a.take n):=fun x hx=>h x (by grind)
theorem Ok.drop{a:List Nat}(h:Ok a)(n:Nat):Ok (a.drop n):=fun x hx=>h x (by grind)
theorem Ok.set{a:List Nat}(h:Ok a)(n:Nat){x:Nat}(hx:x<65536):Ok (a.set n x):=fun y hy=>by
 rcases List.mem_or_eq_of_mem_set hy with h1|h1
 ·exact h y h1
 ·omega
theorem O8: ∀(k m n:Nat),n≤k→n≤m→FQ k n=FQ m n
 |0,0,_,_,_=>rfl
 |0,m+1,n,h,_=>by
  grind[FQ]
 |k+1,0,n,_,h=>by
  grind[FQ]
 |k+1,m+1,n,h1,h2=>by
  unfold FQ;by_cases h:n=0
  ·simp[h]
  ·rw[if_neg h,if_neg h,O8 k m (n/65536) (by omega) (by omega)]
theorem Cm:limbs 0=[]:=rfl
theorem EF{n:Nat}(h:n≠0):limbs n=n%65536::limbs (n/65536):=by
 obtain⟨k,rfl⟩: ∃k,n=k+1:=⟨n - 1,by omega⟩
 unfold limbs;rw[←O8 k _ ((k+1)/65536) (by omega) (AO _)]
 rfl
theorem Nn{x m:Nat}(hx:x<65536)(h:x+65536*m≠0):limbs (x+65536*m)=x::limbs m:=by
 rw[EF h]
 grind
theorem Az(n:Nat):val (limbs n)=n:=by
 induction n using Nat.strongRecOn with
 |_ n ih=>
  by_cases h:n=0
  ·subst h;rfl
  grind[EF,val]
theorem Aw(n:Nat):Ok (limbs n):=by
 induction n using Nat.strongRecOn with
 |_ n ih=>
  by_cases h:n=0
  ·subst h;exact Ok.nil
  grind[EF,Ok.cons]
theorem limbs_nil{n:Nat}:limbs n=[]↔n=0:=by
 constructor
 ·intro h;have:=Az n;rw[h]at this;exact this.symm
 ·rintro rfl;rfl
theorem SG(n:Nat):(limbs n).length=0↔n=0:=by rw[jzv,limbs_nil]
theorem KN:val []=0:=rfl
theorem CF(a b:List Nat):val (a++b)=val a+65536^a.length*val b:=by
 induction a with
 |nil=>simp[val]
 |cons x a ih=>grind[val,List.length_cons,Nat.pow_succ,Nat.mul_add,Nat.mul_comm,Nat.mul_assoc,Nat.add_assoc]
theorem Oi(k:Nat):val (List.replicate k 0)=0:=by
 induction k with
 |zero=>rfl
 |succ k ih=>rw[List.replicate_succ,val,ih]
theorem Bz: ∀(a:List Nat),Ok a→val a<65536^a.length
 |[],_=>by simp[val]
 |x::a,h=>by
  have:=Bz a h.tail
  have:=h.head
  grind[List.length_cons,Nat.pow_succ,val]
theorem Bu: ∀(a:List Nat),Ok a→(limbs (val a)).length≤a.length
 |[],_=>by simp[val,Cm]
 |x::a,h=>by
  have ih:=Bu a h.tail;by_cases h0:x+65536*val a=0
  ·grind[val,Cm]
  ·rw[val,Nn h.head h0];simpa using ih
theorem CG{m n:Nat}(h:m≤n):(limbs m).length≤(limbs n).length:=by
 induction n using Nat.strongRecOn generalizing m with
 |_ n ih=>
  by_cases hm:m=0
  ·grind[Cm]
  ·rw[EF hm,EF (n:=n) (by omega)]
   have:= @ih (n/65536) (by omega) (m/65536) (by omega)
   simpa using this
theorem Ew(n k:Nat)(h:n<65536^k):(limbs n).length≤k:=by
 induction k generalizing n with
 |zero=>
  grind[Cm]
 |succ k ih=>
  grind[Cm,EF,Nat.pow_succ,Nat.div_lt_of_lt_mul,Nat.mul_comm]
theorem jkW{n k:Nat}(h:k<(limbs n).length):65536^k≤n:=by
 grind[Nat.lt_or_ge,Ew]
theorem LA:65536^4=18446744073709551616:=by simp
theorem GE(n:Nat):(limbs n).length≤4↔n<18446744073709551616:=by
 rw[←LA]
 constructor
 ·intro h;have:=Bz _ (Aw n);rw[Az]at this;exact Nat.lt_of_lt_of_le this (Nat.pow_le_pow_right (by omega) h)
 ·exact Ew n 4
def Bw:List Nat→Nat→Nat
 |_,0=>0
 |a,n+1=>if a.getD n 0=0 then Bw a n else n+1
theorem FF(a:List Nat): ∀n,Bw a n≤n
 |0=>AO _
 |n+1=>by
  unfold Bw;split
  ·exact Nat.le_succ_of_le (FF a n)
  simp
theorem N9(x:Nat)(a:List Nat): ∀n,Bw (x::a) (n+1)=if Bw a n=0 then (if x=0 then 0 else 1) else Bw a n+1
 |0=>by simp[Bw]
 |n+1=>by
  rw[Bw,N9 x a n]
  simp only[List.getD_cons_succ];rw[Bw]
  grind
theorem Gc: ∀(a:List Nat),Ok a→a.take (Bw a a.length)=limbs (val a)
 |[],_=>rfl
 |x::a,h=>by
  have ih:=Gc a h.tail;rw[List.length_cons,N9,val];by_cases h0:Bw a a.length=0
  ·rw[h0]at ih
   simp only[List.take_zero]at ih;have hv:val a=0:=limbs_nil.1 ih.symm;rw[if_pos h0,hv];by_cases hx:x=0
   ·subst hx;rfl
   ·rw[if_neg hx]
    simp only[List.take_succ_cons,List.take_zero,Nat.mul_zero,Nat.add_zero];have:=Nn (x:=x) (m:=0) h.head (by omega)
    grind
  ·rw[if_neg h0,List.take_succ_cons,ih]
   have hv:val a≠0:=(by grind[Cm,List.take_eq_nil_iff,Bw])
   exact(Nn h.head (by omega)).symm
theorem Hz: ∀(a b:List Nat),(∀j,a.getD j 0=b.getD j 0)→val a=val b
 |[],[],_=>rfl
 |[],y::b,h=>by
  have h0:=h 0;simp at h0;have:=Hz [] b fun j=>by simpa using h (j+1)
  have e:val (y::b)=y+65536*val b:=rfl
  rw[e,←h0,←this];rfl
 |x::a,[],h=>by
  have h0:=h 0;simp at h0;have:=Hz a [] fun j=>by simpa using h (j+1)
  have e:val (x::a)=x+65536*val a:=rfl
  rw[e,h0,this];rfl
 |x::a,y::b,h=>by
  have h0:=h 0;simp at h0;have:=Hz a b fun j=>by simpa using h (j+1)
  grind[val]
theorem H5{a:List Nat}(h:Ok a)(i:Nat):a.getD i 0<65536:=by
 rw[AL]
 cases hx:a[i]? with
 |none=>simp
 |some x=>exact h.get hx
theorem JT(a:List Nat):val a=a.getD 0 0+65536*val a.tail:=by
 cases a with
 |nil=>rfl
 |cons x a=>rfl
theorem UB{a:List Nat}(h:Ok a):Ok a.tail:=by
 cases a with
 |nil=>exact h
 |cons x a=>exact h.tail
theorem Ho(a:List Nat)(j:Nat):a.tail.getD j 0=a.getD (j+1) 0:=by
 cases a<;>simp
theorem H8: ∀(i:Nat) (a b:List Nat),Ok a→Ok b→(∀j,i<j→a.getD j 0=b.getD j 0)→a.getD i 0<b.getD i 0→val a<val b
 |0,a,b,ha,hb,h,hl=>by
  grind[Hz,Ho,JT]
 |i+1,a,b,ha,hb,h,hl=>by
  have:=H8 i a.tail b.tail (UB ha) (UB hb) (by simp_all) (by grind)
  grind[H5,JT]
def cmp3(a b:Nat):Int:=if a<b then -1 else if b<a then 1 else 0
def Nk(a b:Int):Int:=if a<b then -1 else if b<a then 1 else 0
theorem RV{a b:Nat}(h:(limbs a).length<(limbs b).length):a<b:=by
 grind[Nat.lt_or_ge,CG]
theorem Yo{a:List Nat}{i:Nat}(h:i<a.length):a.take (i+1)=a.take i++[a.getD i 0]:=by
 simp_all
theorem Ks(a:List Nat)(x:Nat):val (a++[x])=val a+65536^a.length*x:=by rw[CF];simp[val]
theorem Dp{a:List Nat}{i:Nat}(h:i<a.length):val (a.take (i+1))=val (a.take i)+65536^i*a.getD i 0:=by
 grind[Yo,Ks,List.length_take,Nat.min_eq_left]
theorem Wf{a:List Nat}{i:Nat}(h:i<a.length):val (a.drop i)=a.getD i 0+65536*val (a.drop (i+1)):=by
 rw[BQ h,val,AL,AD h];rfl
theorem IL: ∀{a:List Nat} {i x:Nat},i<a.length→val (a.set i x)+65536^i*a.getD i 0=val a+65536^i*x
 |[],_,_,h=>by simp at h
 |y::a,0,x,_=>by simp[val];omega
 |y::a,i+1,x,h=>by
  have ih:=IL (a:=a) (i:=i) (x:=x) (by simpa using h)
  grind[val,List.getD_cons_succ,Nat.pow_succ,Nat.mul_comm,Nat.mul_assoc]
section
variable {α:Type}
def EC(e:α→D)(l:List α):D:= .slice l.length (l.map e)
def u16(x:Nat):D:= .int .u16 x
def i64(x:Int):D:= .int .i64 x
abbrev Ad(a:List Nat):D:=EC u16 a
abbrev AT(a:List Int):D:=EC i64 a
@[simp]theorem lenC_lst(e:α→D)(l:List α):lenC (.d (EC e l))=some l.length:=rfl
@[simp]theorem jnJ(h:List (Nat×Blk))(i:Int)(e:α→D)(l:List α):idxSl h 1 i (.d (EC e l))=if 0≤i∧i<l.length then some (.d (.ref ((l.drop i.toNat).map e))) else none:=by
 unfold EC idxSl;simp only[List.length_map,Nat.mul_one,and_true,List.map_drop]
@[simp]theorem src_lst(j:TI)(e:α→D)(l:List α)(st:St)(hj:j.size=1):st.src j (.d (EC e l))=some (l.length,l.map e):=by
 unfold EC St.src;simp[hj]
@[simp]theorem jnN(h:List (Nat×Blk))(e:α→D)(l:List α)(k:Int):sliceV h (.d (EC e l)) none (some k) 1=if 0≤k∧k≤l.length then some (.d (EC e (l.take k.toNat))) else none:=by
 unfold EC sliceV Gb;simp only[List.length_map,Nat.mul_one,if_true,Option.getD_none,Option.getD_some,Int.toNat_zero,Nat.sub_zero];by_cases hk:0≤k∧k≤l.length
 ·rw[if_pos hk,if_pos (by omega)]
  simp[AP]
  omega
 ·rw[if_neg hk,if_neg (by omega)]
@[simp]theorem jng(h:List (Nat×Blk))(e:α→D)(l:List α)(k:Int):sliceV h (.d (EC e l)) (some k) none 1=if 0≤k∧k≤l.length then some (.d (EC e (l.drop k.toNat))) else none:=by
 unfold EC sliceV Gb;simp only[List.length_map,Nat.mul_one,if_true,Option.getD_none,Option.getD_some];by_cases hk:0≤k∧k≤l.length
 ·rw[if_pos hk,if_pos (by omega)]
  simp[AP]
  rw[Ba (by simp)]
 ·rw[if_neg hk,if_neg (by omega)]
@[simp]theorem flat_lst(e:α→D)(l:List α):D.flat (EC e l)=false:=rfl
@[simp high]theorem jnb(e:α→D)(l:List α)(n:Nat)(v:α)(h:n<l.length):splice n [e v] (l.map e)=(l.set n v).map e:=by
 unfold splice
 apply List.ext_getElem?
 intro k;simp only[List.map_set,List.getElem?_set,List.length_map,List.length_singleton];by_cases hk:k<n
 ·rw[List.append_assoc,List.getElem?_append_left (by simp;omega),if_neg (by omega),List.getElem?_take,if_pos hk]
 ·by_cases he:k=n
  ·subst he;rw[if_pos rfl,if_pos (by omega),List.append_assoc,List.getElem?_append_right (by simp;omega)]
   simp[Bs (Nat.le_of_lt h)]
  ·rw[if_neg (fun h=>he h.symm),List.getElem?_append_right (by simp;omega),List.getElem?_drop]
   congr 1
   simp
   omega
theorem Sk{α:Type}{new l:List α}(h:new.length=l.length):splice 0 new l=new:=by
 unfold splice;rw[List.take_zero,Nat.zero_add,DU (by omega)]
 simp
@[simp high]theorem rep_u16(n:Nat):rep n [D.int .u16 0]=(List.replicate n 0).map u16:=by
 induction n with
 |zero=>rfl
 |succ n ih=>rw[rep,ih,List.replicate_succ];rfl
@[simp]theorem rep_one(e:α→D)(n:Nat)(z:α):rep n [e z]=(List.replicate n z).map e:=by
 induction n with
 |zero=>rfl
 |succ n ih=>rw[rep,ih,List.replicate_succ];rfl
end
@[simp]theorem jnI{α β:Type}(e:α→β)(l:List α):(l.map e).take l.length=l.map e:=Ba (by simp)
@[simp]theorem jnC{α:Type}(n:Nat)(l:List α):(l.take n).take n=l.take n:=by rw[List.take_take,Nat.min_self]
theorem wrap_i64{n:Int}(h: -9223372036854775808≤n∧n≤9223372036854775807):IntKind.i64.wrap n=n:=by
 have e:IntKind.i64.wrap n=if n%2^64≥2^(64 - 1) then n%2^64 - 2^64 else n%2^64:=by
  unfold IntKind.wrap;simp[IntKind.signed,IntKind.bits]
 rw[e]
 split<;>omega
@[simp]theorem jnP{n:Nat}(h:n<65536):IntKind.i64.wrap (n:Int)=n:=wrap_i64 (by omega)
@[simp]theorem wrap_u8(n:Nat):IntKind.u8.wrap (n:Int)=((n%256:Nat):Int):=by simp[IntKind.wrap,IntKind.signed,IntKind.bits]
@[simp]theorem Zs(n:Nat):IntKind.u16.wrap (n:Int)=((n%65536:Nat):Int):=by simp[IntKind.wrap,IntKind.signed,IntKind.bits]
@[simp]theorem OF(n:Nat):IntKind.u32.wrap (n:Int)=((n%4294967296:Nat):Int):=by simp[IntKind.wrap,IntKind.signed,IntKind.bits]
@[simp]theorem TB(n:Nat):IntKind.u64.wrap (n:Int)=((n%18446744073709551616:Nat):Int):=by simp[IntKind.wrap,IntKind.signed,IntKind.bits]
theorem Lf(k:IntKind)(a n:Nat)(h:n≤k.bits):Ge k (a:Int) (n:Int)=((a/2^n:Nat):Int):=by
 unfold Ge;rw[Int.toNat_natCast,Bs h,Int.fdiv_eq_ediv_of_nonneg _ (by exact_mod_cast Nat.zero_le _)]
 simp
theorem QL(a n:Nat)(h:n≤64):CW .u64 (a:Int) (n:Int)=((a*2^n%18446744073709551616:Nat):Int):=by
 unfold CW;rw[Int.toNat_natCast,Bs (show n≤IntKind.u64.bits from h),←TB]
 congr 1
theorem Lu(a n:Nat)(h:n≤32):CW .u32 (a:Int) (n:Int)=((a*2^n%4294967296:Nat):Int):=by
 unfold CW;rw[Int.toNat_natCast,Bs (show n≤IntKind.u32.bits from h),←OF]
 congr 1
theorem QU(a b:Nat)(ha:a<18446744073709551616)(hb:b<18446744073709551616):Da .u64 (a:Int) (b:Int)=((a|||b:Nat):Int):=by
 unfold Da
 show IntKind.u64.wrap (((BitVec.ofInt 64 (a:Int)|||BitVec.ofInt 64 (b:Int)).toNat:Nat):Int)=_
 have hl:a|||b<2^64:=Nat.or_lt_two_pow (n:=64) ha hb
 rw[TB,BitVec.ofInt_natCast,BitVec.ofInt_natCast,BitVec.toNat_or,BitVec.toNat_ofNat,BitVec.toNat_ofNat,AX (a:=a) ha,AX (a:=b) hb,AX (a:=a|||b) hl]
theorem Rf(a b:Nat)(ha:a<4294967296)(hb:b<4294967296):Da .u32 (a:Int) (b:Int)=((a|||b:Nat):Int):=by
 unfold Da
 show IntKind.u32.wrap (((BitVec.ofInt 32 (a:Int)|||BitVec.ofInt 32 (b:Int)).toNat:Nat):Int)=_
 have hl:a|||b<2^32:=Nat.or_lt_two_pow (n:=32) ha hb
 rw[OF,BitVec.ofInt_natCast,BitVec.ofInt_natCast,BitVec.toNat_or,BitVec.toNat_ofNat,BitVec.toNat_ofNat,AX (a:=a) ha,AX (a:=b) hb,AX (a:=a|||b) hl]
theorem IM(m x n:Nat)(hm:m<2^n):m|||2^n*x=m+2^n*x:=by
 rw[Nat.or_comm,←Nat.two_pow_add_eq_or_of_lt hm,Nat.add_comm]
section
variable (a b n:Nat)
theorem XW:(a:Int)+(b:Int)=((a+b:Nat):Int):=rfl
theorem SS{c:Int}(h:0≤c):(a:Int)+c=((a+c.toNat:Nat):Int):=by omega
theorem jcn{c:Int}(h:0≤c):c+(a:Int)=((c.toNat+a:Nat):Int):=by omega
theorem WN:(a:Int)*(b:Int)=((a*b:Nat):Int):=rfl
theorem jeM{c:Int}(h:0≤c):(a:Int)*c=((a*c.toNat:Nat):Int):=by
 obtain⟨n,rfl⟩:=Int.eq_ofNat_of_zero_le h;rfl
theorem jgi{c:Int}(h:0≤c):c*(a:Int)=((c.toNat*a:Nat):Int):=by
 obtain⟨n,rfl⟩:=Int.eq_ofNat_of_zero_le h;rfl
theorem Sy:(a:Int)%(b:Int)=((a%b:Nat):Int):=(Int.natCast_emod a b).symm
theorem jjm{c:Int}(h:0≤c):(a:Int)%c=((a%c.toNat:Nat):Int):=by
 obtain⟨n,rfl⟩:=Int.eq_ofNat_of_zero_le h;exact Sy a n
theorem Pc:(a:Int).tmod (b:Int)=((a%b:Nat):Int):=by rw[Int.tmod_eq_emod_of_nonneg (Int.natCast_nonneg a),Int.natCast_emod]
theorem VD{c:Int}(h:0≤c):(a:Int).tmod c=((a%c.toNat:Nat):Int):=by
 obtain⟨n,rfl⟩:=Int.eq_ofNat_of_zero_le h;exact Pc a n
theorem TV:(a:Int).tdiv (b:Int)=((a/b:Nat):Int):=by rw[Int.tdiv_eq_ediv_of_nonneg (Int.natCast_nonneg a),Int.natCast_ediv]
theorem jf4{c:Int}(h:0≤c):(a:Int).tdiv c=((a/c.toNat:Nat):Int):=by
 obtain⟨n,rfl⟩:=Int.eq_ofNat_of_zero_le h;exact TV a n
theorem QG:(a:Int)/(b:Int)=((a/b:Nat):Int):=(Int.natCast_ediv a b).symm
theorem jfQ{c:Int}(h:0≤c):(a:Int)/c=((a/c.toNat:Nat):Int):=by
 obtain⟨n,rfl⟩:=Int.eq_ofNat_of_zero_le h;exact QG a n
theorem jcP(k:IntKind){c:Int}(h:0≤c):Ge k (a:Int) c=((a/2^min c.toNat k.bits:Nat):Int):=by
 unfold Ge;rw[Int.fdiv_eq_ediv_of_nonneg _ (Int.pow_nonneg (by omega))]
 simp
theorem jhO:((n+1:Nat):Int) - 1=(n:Int):=by omega
theorem jer{c:Int}(h:0≤c):((a:Int)≤c)=(a≤c.toNat):=propext ⟨fun _=>by omega,fun _=>by omega⟩
theorem jhd{c:Int}(h:0≤c):(c≤(a:Int))=(c.toNat≤a):=propext ⟨fun _=>by omega,fun _=>by omega⟩
theorem jfc{c:Int}(h:0≤c):((a:Int)<c)=(a<c.toNat):=propext ⟨fun _=>by omega,fun _=>by omega⟩
theorem Xt{c:Int}(h:0≤c):(c<(a:Int))=(c.toNat<a):=propext ⟨fun _=>by omega,fun _=>by omega⟩
theorem jca{c:Int}(h:0≤c):((a:Int)=c)=(a=c.toNat):=propext ⟨fun _=>by omega,fun _=>by omega⟩
theorem jfu{c:Int}(h:0≤c):(c=(a:Int))=(c.toNat=a):=propext ⟨fun _=>by omega,fun _=>by omega⟩
theorem jap:((a:Int)=(b:Int))=(a=b):=propext Int.ofNat_inj
theorem jcG{c:Int}(h:c≤0):(c≤(a:Int))=True:=eq_true (by omega)
theorem jaL:((0:Int)≤(a:Int))=True:=eq_true (Int.natCast_nonneg a)
end
@[simp]theorem lst_fold{α:Type}(e:α→D)(l:List α):D.slice l.length (l.map e)=EC e l:=rfl
theorem jaW(l:List Nat)(n v:Nat):(l.map u16).set n (D.int .u16 (v:Int))=(l.set n v).map u16:=by rw[List.map_set];rfl
theorem IW:u16 0=D.int .u16 0:=rfl
@[simp high]theorem jnD(n v:Nat)(l:List Nat)(h:n<l.length):splice n [D.int .u16 (v:Int)] (l.map u16)=(l.set n v).map u16:=jnb u16 l n v h
theorem jJ:(∀a b:Nat,(a:Int)+(b:Int)=((a+b:Nat):Int))∧(∀a b:Nat,(a:Int)*(b:Int)=((a*b:Nat):Int))∧
(∀(l:List Nat) (n v:Nat),(l.map u16).set n (D.int .u16 (v:Int))=(l.set n v).map u16)∧
(∀(a:Nat) (c:Int),0≤c→(a:Int)+c=((a+c.toNat:Nat):Int))∧
(∀(a:Nat) (c:Int),0≤c→c+(a:Int)=((c.toNat+a:Nat):Int))∧
(∀(a:Nat) (c:Int),0≤c→(a:Int)*c=((a*c.toNat:Nat):Int))∧
(∀(a:Nat) (c:Int),0≤c→c*(a:Int)=((c.toNat*a:Nat):Int))∧
(∀a b:Nat,(a:Int)%(b:Int)=((a%b:Nat):Int))∧
(∀(a:Nat) (c:Int),0≤c→(a:Int)%c=((a%c.toNat:Nat):Int))∧
(∀a b:Nat,(a:Int).tmod (b:Int)=((a%b:Nat):Int))∧
(∀(a:Nat) (c:Int),0≤c→(a:Int).tmod c=((a%c.toNat:Nat):Int))∧
(∀a b:Nat,(a:Int).tdiv (b:Int)=((a/b:Nat):Int))∧
(∀(a:Nat) (c:Int),0≤c→(a:Int).tdiv c=((a/c.toNat:Nat):Int))∧
(∀a b:Nat,(a:Int)/(b:Int)=((a/b:Nat):Int))∧
(∀(a:Nat) (c:Int),0≤c→(a:Int)/c=((a/c.toNat:Nat):Int))∧
(∀(k:IntKind) (a:Nat) (c:Int),0≤c→Ge k (a:Int) c=((a/2^min c.toNat k.bits:Nat):Int))∧
(∀n:Nat,((n+1:Nat):Int) - 1=(n:Int))∧
(∀(a:Nat) (c:Int),0≤c→((a:Int)≤c)=(a≤c.toNat))∧
(∀(a:Nat) (c:Int),0≤c→(c≤(a:Int))=(c.toNat≤a))∧
(∀(a:Nat) (c:Int),0≤c→((a:Int)<c)=(a<c.toNat))∧
(∀(a:Nat) (c:Int),0≤c→(c<(a:Int))=(c.toNat<a))∧
(∀(a:Nat) (c:Int),0≤c→((a:Int)=c)=(a=c.toNat))∧
(∀(a:Nat) (c:Int),0≤c→(c=(a:Int))=(c.toNat=a))∧
(∀a b:Nat,((a:Int)=(b:Int))=(a=b))∧
(∀(a:Nat) (c:Int),c≤0→(c≤(a:Int))=True)∧
(∀a:Nat,((0:Int)≤(a:Int))=True):=
⟨XW,WN,jaW,fun a _ h=>SS a h,fun a _ h=>jcn a h,fun a _ h=>jeM a h,fun a _ h=>jgi a h,Sy,fun a _ h=>jjm a h,Pc,fun a _ h=>VD a h,TV,fun a _ h=>jf4 a h,QG,fun a _ h=>jfQ a h,fun k a _ h=>jcP a k h,jhO,fun a _ h=>jer a h,fun a _ h=>jhd a h,fun a _ h=>jfc a h,fun a _ h=>Xt a h,fun a _ h=>jca a h,fun a _ h=>jfu a h,jap,fun a _ h=>jcG a h,jaL⟩
theorem cO {f : FuncId} {fn : Func} {c : Code} {bs : List A} {res : R} (hf : Go.Proofs.Tryz.prog.funcs[f]? = some fn) (hb : fn.body = some c) (hw : Bl Go.Proofs.Tryz.prog tb c { t := CJ 0 bs, h := [] } (HU tb fn.results.toList res)) (hname : (fn.name == "runtime.NumGoroutine") = false := by decide) (hn : bs.length ≤ fn.ntmps := by exact Al rfl) (hok : B6 fn.ntmps [] c = true := by rfl) : CallsF Go.Proofs.Tryz.prog f bs res := Am (T := tb) Ak mixed hf hb hname hn hok hw
end Go.Va
namespace Go.Va
open Go.Proofs
theorem EI{α:Type}{a:List α}{n:Nat}(h:n<a.length): ∃x,a[n]? =some x:=⟨_,AD h⟩
theorem B2(a:List Nat)(ha:Ok a)(hl:a.length≤1099511627776):CallsF Tryz.prog 372 [.c (Ad a)] (.u (.c (.d (Ad (limbs (val a)))))):=by
 rw[←Gc a ha]
 refine cO Tryz.func372 rfl ?_;simp;refine AV (fun n:Nat=>⟨[(0,vC (.d (Ad a))),(3,vI .i64 n)],[]⟩) (fun n=>n≤a.length∧Bw a n=Bw a a.length) (fun n=>n) a.length
  (by simp) ⟨AO _,rfl⟩ ?_
 rintro n ⟨hn,ht⟩
 cases n with
 |zero=>
  have:=ht.symm
  simp[Bw]at this
  simp[this]
 |succ n=>
  obtain⟨x,hx⟩:=EI (a:=a) (n:=n) (by omega)
  have hl:=FF a a.length;simp[hx,u16];refine⟨by omega,by omega,fun h0=>⟨by omega,n,rfl,⟨by omega,?_⟩,by omega⟩,fun h0=>⟨by omega,?_⟩⟩
  ·rw[←ht];simp[Bw,hx,h0]
  ·rw[←ht];simp[Bw,hx,h0]
@[simp]theorem lst_nil{α:Type}(e:α→D):D.slice 0 []=EC e []:=rfl
theorem EO(a:List Nat)(ha:Ok a)(hl:a.length≤1099511627776):CallsF Tryz.prog 340 [.c (Ad a)] (.u (.c (.d (Ad (limbs (val a)))))):=by
 refine cO Tryz.func340 rfl ?_;simp;refine .inl ⟨_,B2 a ha hl,?_⟩
 have hlen:=Bu a ha;generalize limbs (val a)=b at hlen;simp;refine⟨fun h=>by rw[h];rfl,fun _=>⟨by omega,by rw[Sk (by simp)];simp,by rw[Sk (by simp)];simp⟩⟩
theorem CM(a:List Nat)(ha:Ok a)(hl:a.length≤70368744177664):CallsF Tryz.prog 193 [.c (Ad a)] (.u (.c (.d (Ad (limbs (val a)))))):=by
 rw[←Gc a ha]
 refine cO Tryz.func193 rfl ?_;simp;refine AV (fun n:Nat=>⟨[(0,vC (.d (Ad a))),(3,vI .i64 n)],[]⟩) (fun n=>n≤a.length∧Bw a n=Bw a a.length) (fun n=>n) a.length
  (by simp) ⟨AO _,rfl⟩ ?_
 rintro n ⟨hn,ht⟩
 cases n with
 |zero=>
  have:=ht.symm
  simp[Bw]at this
  simp[this]
  rfl
 |succ n=>
  obtain⟨x,hx⟩:=EI (a:=a) (n:=n) (by omega)
  have hl:=FF a a.length;simp[hx,u16];refine⟨by omega,by omega,fun h0=>⟨by omega,n,rfl,⟨by omega,?_⟩,by omega⟩,fun h0=>⟨by omega,by omega,?_⟩⟩
  ·rw[←ht];simp[Bw,hx,h0]
  ·rw[←ht,Bs hn];simp[Bw,hx,h0,EC,Bs hn]
theorem En(a:List Nat)(ha:Ok a)(i:Nat)(hi:i≤140737488355328):CallsF Tryz.prog 196 [.c (Ad a),.c (.int .i64 i)] (.u (.c (.d (.int .i64 (a.getD i 0))))):=by
 refine cO Tryz.func196 rfl ?_;by_cases h:i<a.length
 ·have hx':=ha.get (AD h);simp[u16,h,hx']
 ·simp[h]
end Go.Va
