/- a part of the proof -/
import Derived.Test.YtplacedebenpaaaGreatDoorEaa
import Derived.Test.YtplacedebenpaaaGreatDoorEak
import Derived.Test.YtplacedebenpaaaGreatDoorEal
set_option linter.all false
set_option maxHeartbeats 4000000
set_option maxRecDepth 10000
namespace Go.Va
open _root_.Int renaming eq_ofNat_of_zero_le → aD, natCast_nonneg → aM, fdiv_eq_ediv_of_nonneg → aO, toNat_natCast → aP, natCast_emod → a8, natCast_ediv → bA
open IntKind renaming signed → aG, wrap → aI, bits → aJ
open _root_.List renaming length_map → aH, replicate_succ → aL, getElem?_append_right → aN, length_cons → aR, replicate → aT, take_zero → aU, getD_cons_succ → aW, take_succ_cons → aX, append_assoc → aZ, map_set → bC
open _root_.Nat renaming pow_succ → aS, mul_comm → aY, or_lt_two_pow → a6, mul_one → a7, mul_assoc → bB
def val:List Nat->Nat
 |[]=>0
 |x::r=>x+65536*val r
def Ok(a:List Nat):Prop:= ∀x∈a,x<65536
def FQ:Nat->Nat->List Nat
 |0,_=>[]
 |k+1,n=>if n=0 then [] else n%65536::FQ k (n/65536)
def limbs(n:Nat):List Nat:=FQ n n
variable{i:Nat}{c:Int}
theorem Ok.nil:Ok []:=λx h=>by cases h
theorem Ok.cons{x:Nat}{a:List Nat}(b:x<65536)(h:Ok a):Ok (x::a):=λy hy=>by
 rcases jzn.1 hy with rfl|hy
 ·exact b
 ·exact h y hy
theorem Ok.head{x:Nat}{a:List Nat}(h:Ok (x::a)):x<65536:=h x O1
theorem Ok.tail{x:Nat}{a:List Nat}(h:Ok (x::a)):Ok a:=λy b=>h y (by simp[b])
theorem Ok.get{a:List Nat}(h:Ok a){x:Nat}(b:a[i]? =some x):x<65536:=h x O3
theorem Ok.app{a b:List Nat}(h:Ok a)(e:Ok b):Ok (a++b):=λx f=>by
 rcases List.mem_append.1 f with h1|h1
 ·exact h x h1
 ·exact e x h1
theorem Ok.take{a:List Nat}(h:Ok a)(n:Nat):Ok (a.take n):=λx b=>h x O3
theorem Ok.drop{a:List Nat}(h:Ok a)(n:Nat):Ok (a.drop n):=λx b=>h x O3
theorem Ok.set{a:List Nat}(h:Ok a)(n:Nat){x:Nat}(e:x<65536):Ok (a.set n x):=λy b=>by
 rcases List.mem_or_eq_of_mem_set b with h1|h1
 ·exact h y h1
 ·omega
theorem O8: ∀(k m n:Nat),n<=k->n<=m->FQ k n=FQ m n
 |0,0,_,_,_=>rfl
 |0,m+1,n,h,_=>by
  grind[FQ]
 |k+1,0,n,_,h=>by
  grind[FQ]
 |k+1,m+1,n,a,b=>by
  unfold FQ;by_cases h:n=0
  ·simp[h]
  ·rw[if_neg h,if_neg h,O8 k m (n/65536) O O]
theorem Cm:limbs 0=[]:=rfl
theorem EF{n:Nat}(h:n≠0):limbs n=n%65536::limbs (n/65536):=by
 obtain⟨k,rfl⟩: ∃k,n=k+1:=⟨n - 1,O⟩
 unfold limbs;rw[<-O8 k _ ((k+1)/65536) O (AO _)];rfl
theorem jAs(n:Nat):limbs n=if n=0 then [] else n%65536::limbs (n/65536):=by
 by_cases h:n=0
 ·subst h;rfl
 ·rw[if_neg h,EF h]
theorem Nn{x m:Nat}(a:x<65536)(h:x+65536*m≠0):limbs (x+65536*m)=x::limbs m:=by
 rw[EF h];grind
theorem Az(n:Nat):val (limbs n)=n:=by
 induction n using Nat.strongRecOn with
 |_ n a=>
  by_cases h:n=0
  ·subst h;rfl
  grind[EF,val]
theorem Aw(n:Nat):Ok (limbs n):=by
 induction n using Nat.strongRecOn with
 |_ n a=>
  by_cases h:n=0
  ·subst h;exact Ok.nil
  grind[EF,Ok.cons]
theorem limbs_nil{n:Nat}:limbs n=[]↔n=0:=by
 constructor
 ·intro h;have:=Az n;rw[h]at this;exact this.symm
 ·rintro rfl;rfl
theorem SG(n:Nat):(limbs n).length=0↔n=0:=by rw[jzv,limbs_nil]
theorem KN:val []=0:=rfl
theorem CF(a b:List Nat):val (a++b)=val a+65536^a.length*val b:=by
 induction a with
 |nil=>simp[val]
 |cons x a e=>grind[val,aR,aS,Nat.mul_add,aY,bB,Nat.add_assoc]
theorem Oi(k:Nat):val (aT k 0)=0:=by
 induction k with
 |zero=>rfl
 |succ k a=>rw[aL,val,a]
theorem Bz: ∀(a:List Nat),Ok a->val a<65536^a.length
 |[],_=>by simp[val]
 |x::a,h=>by
  have:=Bz a h.tail;have:=h.head;grind[aR,aS,val]
theorem Bu: ∀(a:List Nat),Ok a->(limbs (val a)).length<=a.length
 |[],_=>by simp[val,Cm]
 |x::a,h=>by
  have e:=Bu a h.tail;by_cases b:x+65536*val a=0
  ·grind[val,Cm]
  ·rw[val,Nn h.head b];simpa using e
theorem CG{m n:Nat}(h:m<=n):(limbs m).length<=(limbs n).length:=by
 induction n using Nat.strongRecOn generalizing m with
 |_ n b=>
  by_cases a:m=0
  ·grind[Cm]
  ·rw[EF a,EF (n:=n) O];have:= @b (n/65536) O (m/65536) O;simpa using this
theorem Ew(n k:Nat)(h:n<65536^k):(limbs n).length<=k:=by
 induction k generalizing n with
 |zero=>
  grind[Cm]
 |succ k a=>
  grind[Cm,EF,aS,Nat.div_lt_of_lt_mul,aY]
theorem CZ:65536^4=18446744073709551616:=O1
theorem GE(n:Nat):(limbs n).length<=4↔n<18446744073709551616:=by
 rw[<-CZ];constructor
 ·intro h;have:=Bz _ (Aw n);rw[Az]at this;exact Nat.lt_of_lt_of_le this (Nat.pow_le_pow_right O h)
 ·exact Ew n 4
def Bw:List Nat->Nat->Nat
 |_,0=>0
 |a,n+1=>if a.getD n 0=0 then Bw a n else n+1
theorem FF(a:List Nat): ∀n,Bw a n<=n
 |0=>AO _
 |n+1=>by
  unfold Bw;split
  ·exact Nat.le_succ_of_le (FF a n)
  simp
theorem N9(x:Nat)(a:List Nat): ∀n,Bw (x::a) (n+1)=if Bw a n=0 then (if x=0 then 0 else 1) else Bw a n+1
 |0=>by simp[Bw]
 |n+1=>by
  rw[Bw,N9 x a n];simp only[aW];rw[Bw];grind
theorem Gc: ∀(a:List Nat),Ok a->a.take (Bw a a.length)=limbs (val a)
 |[],_=>rfl
 |x::a,h=>by
  have b:=Gc a h.tail;rw[aR,N9,val];by_cases e:Bw a a.length=0
  ·rw[e]at b;simp only[aU]at b;have f:val a=0:=limbs_nil.1 b.symm;rw[if_pos e,f];by_cases g:x=0
   ·subst g;rfl
   ·rw[if_neg g];simp only[aX,aU,Nat.mul_zero,Nat.add_zero];have:=Nn (x:=x) (m:=0) h.head O;grind
  ·rw[if_neg e,aX,b];have f:val a≠0:=(by grind[Cm,List.take_eq_nil_iff,Bw])
   exact(Nn h.head O).symm
theorem Hz: ∀(a b:List Nat),(∀j,a.getD j 0=b.getD j 0)->val a=val b
 |[],[],_=>rfl
 |[],y::b,h=>by
  have f:=h 0;simp at f;have:=Hz [] b λj=>by simpa using h (j+1)
  have e:val (y::b)=y+65536*val b:=rfl;rw[e,<-f,<-this];rfl
 |x::a,[],h=>by
  have f:=h 0;simp at f;have:=Hz a [] λj=>by simpa using h (j+1)
  have e:val (x::a)=x+65536*val a:=rfl;rw[e,f,this];rfl
 |x::a,y::b,h=>by
  have f:=h 0;simp at f;have:=Hz a b λj=>by simpa using h (j+1)
  grind[val]
theorem H5{a:List Nat}(h:Ok a)(i:Nat):a.getD i 0<65536:=by
 rw[AL];cases b:a[i]? with
 |none=>simp
 |some x=>exact h.get b
theorem JT(a:List Nat):val a=a.getD 0 0+65536*val a.tail:=by
 cases a with
 |nil=>rfl
 |cons x a=>rfl
theorem UB{a:List Nat}(h:Ok a):Ok a.tail:=by
 cases a with
 |nil=>exact h
 |cons x a=>exact h.tail
theorem Ho(a:List Nat)(j:Nat):a.tail.getD j 0=a.getD (j+1) 0:=by
 cases a<;>simp
theorem H8: ∀(i:Nat) (a b:List Nat),Ok a->Ok b->(∀j,i<j->a.getD j 0=b.getD j 0)->a.getD i 0<b.getD i 0->val a<val b
 |0,a,b,e,f,h,g=>by
  grind[Hz,Ho,JT]
 |i+1,a,b,e,f,h,g=>by
  have:=H8 i a.tail b.tail (UB e) (UB f) (by simp_all) O3;grind[H5,JT]
def cmp3(a b:Nat):Int:=if a<b then -1 else if b<a then 1 else 0
def Nk(a b:Int):Int:=if a<b then -1 else if b<a then 1 else 0
theorem RV{a b:Nat}(h:(limbs a).length<(limbs b).length):a<b:=by
 grind[Nat.lt_or_ge,CG]
theorem Yo{a:List Nat}(h:i<a.length):a.take (i+1)=a.take i++[a.getD i 0]:=by
 simp_all
theorem Ks(a:List Nat)(x:Nat):val (a++[x])=val a+65536^a.length*x:=by rw[CF];simp[val]
theorem Dp{a:List Nat}(h:i<a.length):val (a.take (i+1))=val (a.take i)+65536^i*a.getD i 0:=by
 grind[Yo,Ks,List.length_take,Nat.min_eq_left]
theorem Wf{a:List Nat}(h:i<a.length):val (a.drop i)=a.getD i 0+65536*val (a.drop (i+1)):=by
 rw[BQ h,val,AL,AD h];rfl
theorem IL: ∀{a:List Nat} {i x:Nat},i<a.length->val (a.set i x)+65536^i*a.getD i 0=val a+65536^i*x
 |[],_,_,h=>by simp at h
 |y::a,0,x,_=>by simp[val];omega
 |y::a,i+1,x,h=>by
  have b:=IL (a:=a) (i:=i) (x:=x) (by simpa using h);grind[val,aW,aS,aY,bB]
section
variable {α:Type}
def EC(e:α->D)(l:List α):D:= .slice l.length (l.map e)
def u16(x:Nat):D:= .int .u16 x
def i64(x:Int):D:= .int .i64 x
abbrev Ad(a:List Nat):D:=EC u16 a
abbrev AT(a:List Int):D:=EC i64 a
@[simp]theorem lenC_lst(e:α->D)(l:List α):lenC (.d (EC e l))=some l.length:=rfl
@[simp]theorem jnJ(h:List (Nat×Blk))(i:Int)(e:α->D)(l:List α):idxSl h 1 i (.d (EC e l))=if 0<=i/\i<l.length then some (.d (.ref ((l.drop i.toNat).map e))) else none:=by
 unfold EC idxSl;simp only[aH,a7,and_true,List.map_drop]
@[simp]theorem src_lst(j:TI)(e:α->D)(l:List α)(b:St)(a:j.size=1):b.src j (.d (EC e l))=some (l.length,l.map e):=by
 unfold EC St.src;simp[a]
@[simp]theorem jnN(h:List (Nat×Blk))(e:α->D)(l:List α)(k:Int):sliceV h (.d (EC e l)) none (some k) 1=if 0<=k/\k<=l.length then some (.d (EC e (l.take k.toNat))) else none:=by
 unfold EC sliceV Gb;simp only[aH,a7,if_true,Option.getD_none,Option.getD_some,Int.toNat_zero,Nat.sub_zero];by_cases a:0<=k/\k<=l.length
 ·rw[if_pos a,if_pos O];simp[cut];omega
 ·rw[if_neg a,if_neg O]
@[simp]theorem jng(h:List (Nat×Blk))(e:α->D)(l:List α)(k:Int):sliceV h (.d (EC e l)) (some k) none 1=if 0<=k/\k<=l.length then some (.d (EC e (l.drop k.toNat))) else none:=by
 unfold EC sliceV Gb;simp only[aH,a7,if_true,Option.getD_none,Option.getD_some];by_cases a:0<=k/\k<=l.length
 ·rw[if_pos a,if_pos O];simp[cut];rw[Ba O1]
 ·rw[if_neg a,if_neg O]
@[simp]theorem flat_lst(e:α->D)(l:List α):D.flat (EC e l)=false:=rfl
@[simp high]theorem jnb(e:α->D)(l:List α)(n:Nat)(v:α)(h:n<l.length):splice n [e v] (l.map e)=(l.set n v).map e:=by
 unfold splice;apply List.ext_getElem?;intro k;simp only[bC,List.getElem?_set,aH,List.length_singleton];by_cases b:k<n
 ·rw[aZ,List.getElem?_append_left (by simp;omega),if_neg O,List.getElem?_take,if_pos b]
 ·by_cases a:k=n
  ·subst a;rw[if_pos rfl,if_pos O,aZ,aN (by simp;omega)];simp[Bs (Nat.le_of_lt h)]
  ·rw[if_neg (λh=>a h.symm),aN (by simp;omega),List.getElem?_drop];congr 1;simp;omega
theorem Sk{α:Type}{new l:List α}(h:new.length=l.length):splice 0 new l=new:=by
 unfold splice;rw[aU,Nat.zero_add,DU O];simp
@[simp high]theorem rep_u16(n:Nat):rep n [D.int .u16 0]=(aT n 0).map u16:=by
 induction n with
 |zero=>rfl
 |succ n a=>rw[rep,a,aL];rfl
@[simp]theorem rep_one(e:α->D)(n:Nat)(z:α):rep n [e z]=(aT n z).map e:=by
 induction n with
 |zero=>rfl
 |succ n a=>rw[rep,a,aL];rfl
end
@[simp]theorem jnI{α β:Type}(e:α->β)(l:List α):(l.map e).take l.length=l.map e:=Ba O1
@[simp]theorem jnC{α:Type}(n:Nat)(l:List α):(l.take n).take n=l.take n:=by rw[List.take_take,Nat.min_self]
theorem wrap_i64{n:Int}(h: -9223372036854775808<=n/\n<=9223372036854775807):IntKind.i64.wrap n=n:=by
 have e:IntKind.i64.wrap n=if n%2^64>=2^(64 - 1) then n%2^64 - 2^64 else n%2^64:=by
  unfold aI;simp[aG,aJ]
 rw[e];split<;>omega
@[simp]theorem jnP{n:Nat}(h:n<65536):IntKind.i64.wrap (n:Int)=n:=wrap_i64 O
@[simp]theorem wrap_u8(n:Nat):IntKind.u8.wrap (n:Int)=((n%256:Nat):Int):=by simp[aI,aG,aJ]
@[simp]theorem Zs(n:Nat):IntKind.u16.wrap (n:Int)=((n%65536:Nat):Int):=by simp[aI,aG,aJ]
@[simp]theorem OF(n:Nat):IntKind.u32.wrap (n:Int)=((n%4294967296:Nat):Int):=by simp[aI,aG,aJ]
@[simp]theorem TB(n:Nat):IntKind.u64.wrap (n:Int)=((n%18446744073709551616:Nat):Int):=by simp[aI,aG,aJ]
theorem Lf(k:IntKind)(a n:Nat)(h:n<=k.bits):Ge k (a:Int) (n:Int)=((a/2^n:Nat):Int):=by
 unfold Ge;rw[aP,Bs h,aO _ (by exact_mod_cast Nat.zero_le _)];simp
theorem QL(a n:Nat)(h:n<=64):CW .u64 (a:Int) (n:Int)=((a*2^n%18446744073709551616:Nat):Int):=by
 unfold CW;rw[aP,Bs (show n<=IntKind.u64.bits from h),<-TB];congr 1
theorem Lu(a n:Nat)(h:n<=32):CW .u32 (a:Int) (n:Int)=((a*2^n%4294967296:Nat):Int):=by
 unfold CW;rw[aP,Bs (show n<=IntKind.u32.bits from h),<-OF];congr 1
theorem QU(a b:Nat)(e:a<18446744073709551616)(f:b<18446744073709551616):Da .u64 (a:Int) (b:Int)=((a|||b:Nat):Int):=by
 unfold Da;show IntKind.u64.wrap (((BitVec.ofInt 64 (a:Int)|||BitVec.ofInt 64 (b:Int)).toNat:Nat):Int)=_;have g:a|||b<2^64:=a6 (n:=64) e f
 rw[TB,BitVec.ofInt_natCast,BitVec.ofInt_natCast,BitVec.toNat_or,BitVec.toNat_ofNat,BitVec.toNat_ofNat,AX (a:=a) e,AX (a:=b) f,AX (a:=a|||b) g]
theorem Rf(a b:Nat)(e:a<4294967296)(f:b<4294967296):Da .u32 (a:Int) (b:Int)=((a|||b:Nat):Int):=by
 unfold Da;show IntKind.u32.wrap (((BitVec.ofInt 32 (a:Int)|||BitVec.ofInt 32 (b:Int)).toNat:Nat):Int)=_;have g:a|||b<2^32:=a6 (n:=32) e f
 rw[OF,BitVec.ofInt_natCast,BitVec.ofInt_natCast,BitVec.toNat_or,BitVec.toNat_ofNat,BitVec.toNat_ofNat,AX (a:=a) e,AX (a:=b) f,AX (a:=a|||b) g]
theorem IM(m x n:Nat)(a:m<2^n):m|||2^n*x=m+2^n*x:=by
 rw[Nat.or_comm,<-Nat.two_pow_add_eq_or_of_lt a,Nat.add_comm]
section
variable (a b n:Nat)
theorem XW:(a:Int)+(b:Int)=((a+b:Nat):Int):=rfl
theorem SS(h:0<=c):(a:Int)+c=((a+c.toNat:Nat):Int):=O
theorem jcn(h:0<=c):c+(a:Int)=((c.toNat+a:Nat):Int):=O
theorem WN:(a:Int)*(b:Int)=((a*b:Nat):Int):=rfl
theorem jeM(h:0<=c):(a:Int)*c=((a*c.toNat:Nat):Int):=by
 obtain⟨n,rfl⟩:=aD h;rfl
theorem jgi(h:0<=c):c*(a:Int)=((c.toNat*a:Nat):Int):=by
 obtain⟨n,rfl⟩:=aD h;rfl
theorem Sy:(a:Int)%(b:Int)=((a%b:Nat):Int):=(a8 a b).symm
theorem jjm(h:0<=c):(a:Int)%c=((a%c.toNat:Nat):Int):=by
 obtain⟨n,rfl⟩:=aD h;exact Sy a n
theorem Pc:(a:Int).tmod (b:Int)=((a%b:Nat):Int):=by rw[Int.tmod_eq_emod_of_nonneg (aM a),a8]
theorem VD(h:0<=c):(a:Int).tmod c=((a%c.toNat:Nat):Int):=by
 obtain⟨n,rfl⟩:=aD h;exact Pc a n
theorem TV:(a:Int).tdiv (b:Int)=((a/b:Nat):Int):=by rw[Int.tdiv_eq_ediv_of_nonneg (aM a),bA]
theorem jf4(h:0<=c):(a:Int).tdiv c=((a/c.toNat:Nat):Int):=by
 obtain⟨n,rfl⟩:=aD h;exact TV a n
theorem QG:(a:Int)/(b:Int)=((a/b:Nat):Int):=(bA a b).symm
theorem jfQ(h:0<=c):(a:Int)/c=((a/c.toNat:Nat):Int):=by
 obtain⟨n,rfl⟩:=aD h;exact QG a n
theorem jcP(k:IntKind)(h:0<=c):Ge k (a:Int) c=((a/2^min c.toNat k.bits:Nat):Int):=by
 unfold Ge;rw[aO _ (Int.pow_nonneg O)];simp
theorem jhO:((n+1:Nat):Int) - 1=(n:Int):=O
theorem jer(h:0<=c):((a:Int)<=c)=(a<=c.toNat):=propext ⟨λ_=>O,λ_=>O⟩
theorem jhd(h:0<=c):(c<=(a:Int))=(c.toNat<=a):=propext ⟨λ_=>O,λ_=>O⟩
theorem jfc(h:0<=c):((a:Int)<c)=(a<c.toNat):=propext ⟨λ_=>O,λ_=>O⟩
theorem Xt(h:0<=c):(c<(a:Int))=(c.toNat<a):=propext ⟨λ_=>O,λ_=>O⟩
theorem jca(h:0<=c):((a:Int)=c)=(a=c.toNat):=propext ⟨λ_=>O,λ_=>O⟩
theorem jfu(h:0<=c):(c=(a:Int))=(c.toNat=a):=propext ⟨λ_=>O,λ_=>O⟩
theorem jap:((a:Int)=(b:Int))=(a=b):=propext Int.ofNat_inj
theorem jcG(h:c<=0):(c<=(a:Int))=True:=eq_true O
theorem jaL:((0:Int)<=(a:Int))=True:=eq_true (aM a)
end
@[simp]theorem lst_fold{α:Type}(e:α->D)(l:List α):D.slice l.length (l.map e)=EC e l:=rfl
theorem jaW(l:List Nat)(n v:Nat):(l.map u16).set n (D.int .u16 (v:Int))=(l.set n v).map u16:=by rw[bC];rfl
theorem IW:u16 0=D.int .u16 0:=rfl
@[simp high]theorem jnD(n v:Nat)(l:List Nat)(h:n<l.length):splice n [D.int .u16 (v:Int)] (l.map u16)=(l.set n v).map u16:=jnb u16 l n v h
theorem jJ:(∀a b:Nat,(a:Int)+(b:Int)=((a+b:Nat):Int))/\(∀a b:Nat,(a:Int)*(b:Int)=((a*b:Nat):Int))/\
(∀(l:List Nat) (n v:Nat),(l.map u16).set n (D.int .u16 (v:Int))=(l.set n v).map u16)/\
(∀(a:Nat) (c:Int),0<=c->(a:Int)+c=((a+c.toNat:Nat):Int))/\
(∀(a:Nat) (c:Int),0<=c->c+(a:Int)=((c.toNat+a:Nat):Int))/\
(∀(a:Nat) (c:Int),0<=c->(a:Int)*c=((a*c.toNat:Nat):Int))/\
(∀(a:Nat) (c:Int),0<=c->c*(a:Int)=((c.toNat*a:Nat):Int))/\
(∀a b:Nat,(a:Int)%(b:Int)=((a%b:Nat):Int))/\
(∀(a:Nat) (c:Int),0<=c->(a:Int)%c=((a%c.toNat:Nat):Int))/\
(∀a b:Nat,(a:Int).tmod (b:Int)=((a%b:Nat):Int))/\
(∀(a:Nat) (c:Int),0<=c->(a:Int).tmod c=((a%c.toNat:Nat):Int))/\
(∀a b:Nat,(a:Int).tdiv (b:Int)=((a/b:Nat):Int))/\
(∀(a:Nat) (c:Int),0<=c->(a:Int).tdiv c=((a/c.toNat:Nat):Int))/\
(∀a b:Nat,(a:Int)/(b:Int)=((a/b:Nat):Int))/\
(∀(a:Nat) (c:Int),0<=c->(a:Int)/c=((a/c.toNat:Nat):Int))/\
(∀(k:IntKind) (a:Nat) (c:Int),0<=c->Ge k (a:Int) c=((a/2^min c.toNat k.bits:Nat):Int))/\
(∀n:Nat,((n+1:Nat):Int) - 1=(n:Int))/\
(∀(a:Nat) (c:Int),0<=c->((a:Int)<=c)=(a<=c.toNat))/\
(∀(a:Nat) (c:Int),0<=c->(c<=(a:Int))=(c.toNat<=a))/\
(∀(a:Nat) (c:Int),0<=c->((a:Int)<c)=(a<c.toNat))/\
(∀(a:Nat) (c:Int),0<=c->(c<(a:Int))=(c.toNat<a))/\
(∀(a:Nat) (c:Int),0<=c->((a:Int)=c)=(a=c.toNat))/\
(∀(a:Nat) (c:Int),0<=c->(c=(a:Int))=(c.toNat=a))/\
(∀a b:Nat,((a:Int)=(b:Int))=(a=b))/\
(∀(a:Nat) (c:Int),c<=0->(c<=(a:Int))=True)/\
(∀a:Nat,((0:Int)<=(a:Int))=True):=
⟨XW,WN,jaW,λa _ h=>SS a h,λa _ h=>jcn a h,λa _ h=>jeM a h,λa _ h=>jgi a h,Sy,λa _ h=>jjm a h,Pc,λa _ h=>VD a h,TV,λa _ h=>jf4 a h,QG,λa _ h=>jfQ a h,λk a _ h=>jcP a k h,jhO,λa _ h=>jer a h,λa _ h=>jhd a h,λa _ h=>jfc a h,λa _ h=>Xt a h,λa _ h=>jca a h,λa _ h=>jfu a h,jap,λa _ h=>jcG a h,jaL⟩
theorem cO [DrC] {f : FuncId} {fn : Func} {c : Code} {bs : List A} {res : R} (hf : Go.Proofs.Tryz.prog.funcs[f]? = some fn) (hb : fn.body = some c) (hw : Bl Go.Proofs.Tryz.prog tb c { t := CJ 0 bs, h := [] } (HU tb fn.results.toList res)) (hname : (fn.name == "runtime.NumGoroutine") = false := by decide) (hn : bs.length ≤ fn.ntmps := by exact Al rfl) (hok : B6 fn.ntmps [] c = true := by rfl) : CallsF Go.Proofs.Tryz.prog f bs res := Am (T := tb) Ak mixed hf hb hname hn hok hw
theorem aA[DrC]{P:Program}{g:FuncId}{b:List A}{r:R}{k:R->Prop}{G H:Prop}(h:CallsF P g b r)(i:H)(p:G9 P g b k->G:=by first|exact id|exact .inl)(q:k r=H:=by conv=>lhs;simp -implicitDefEqProofs[jJ,-Int.natCast_add,-Int.natCast_mul]):G:=p ⟨r,h,q.mpr i⟩
theorem aA1[DrC]{P:Program}{g:FuncId}{b:List A}{r:R}{k:R->Prop}{G X:Prop}{H:X->Prop}(x:X)(h:CallsF P g b r)(i:H x)(p:G9 P g b k->G:=by first|exact id|exact .inl)(q:∀x,k r=H x:=by intro x;conv=>lhs;simp -implicitDefEqProofs[jJ,-Int.natCast_add,-Int.natCast_mul,x]):G:=p ⟨r,h,(q x).mpr i⟩
theorem aA2[DrC]{P:Program}{g:FuncId}{b:List A}{r:R}{k:R->Prop}{G X Y:Prop}{H:X->Y->Prop}(x:X)(y:Y)(h:CallsF P g b r)(i:H x y)(p:G9 P g b k->G:=by first|exact id|exact .inl)(q:∀x y,k r=H x y:=by intro x y;conv=>lhs;simp -implicitDefEqProofs[jJ,-Int.natCast_add,-Int.natCast_mul,x,y]):G:=p ⟨r,h,(q x y).mpr i⟩
theorem aB[DrC]{P:Program}{g:FuncId}{b:List A}{r:R}{k:R->Prop}{G H:Prop}(h:CallsF P g b r)(i:H)(p:G9 P g b k->G:=by first|exact id|exact .inl)(q:k r=H:=by conv=>lhs;simp -implicitDefEqProofs[jJ,-Int.natCast_add,-Int.natCast_mul,-Int.natCast_emod,-Int.natCast_ediv,-Int.natCast_pow]):G:=p ⟨r,h,q.mpr i⟩
theorem aB1[DrC]{P:Program}{g:FuncId}{b:List A}{r:R}{k:R->Prop}{G X:Prop}{H:X->Prop}(x:X)(h:CallsF P g b r)(i:H x)(p:G9 P g b k->G:=by first|exact id|exact .inl)(q:∀x,k r=H x:=by intro x;conv=>lhs;simp -implicitDefEqProofs[jJ,-Int.natCast_add,-Int.natCast_mul,-Int.natCast_emod,-Int.natCast_ediv,-Int.natCast_pow,x]):G:=p ⟨r,h,(q x).mpr i⟩
theorem aC[DrC]{P:Program}{g:FuncId}{b:List A}{r:R}{k:R->Prop}{G H:Prop}(h:CallsF P g b r)(i:H)(p:G9 P g b k->G:=by first|exact id|exact .inl)(q:k r=H:=by conv=>lhs;simp -implicitDefEqProofs[jJ,-Int.natCast_add,-Int.natCast_mul,-Int.natCast_emod,-Int.natCast_ediv,-Int.natCast_pow,-List.map_set]):G:=p ⟨r,h,q.mpr i⟩
theorem aF[DrC]{P:Program}{g:FuncId}{b:List A}{r:R}{k:R->Prop}{G H:Prop}(h:CallsF P g b r)(i:H)(p:G9 P g b k->G:=by first|exact id|exact .inl)(q:k r=H:=by conv=>lhs;simp -implicitDefEqProofs[jJ,-Int.natCast_add,-Int.natCast_mul,-List.reduceReplicate]):G:=p ⟨r,h,q.mpr i⟩
theorem aK[DrC]{P:Program}{g:FuncId}{b:List A}{r:R}{k:R->Prop}{G H:Prop}(h:CallsF P g b r)(i:H)(p:G9 P g b k->G:=by first|exact id|exact .inl)(q:k r=H:=by conv=>lhs;simp -implicitDefEqProofs[jJ,-Int.natCast_add,-Int.natCast_mul,-Int.natCast_emod,-Int.natCast_ediv,-Int.natCast_pow,i64]):G:=p ⟨r,h,q.mpr i⟩
theorem aQ[DrC]{P:Program}{g:FuncId}{b:List A}{r:R}{k:R->Prop}{G H:Prop}(h:CallsF P g b r)(i:H)(p:G9 P g b k->G:=by first|exact id|exact .inl)(q:k r=H:=by conv=>lhs;simp -implicitDefEqProofs[jJ,-Int.natCast_add,-Int.natCast_mul,-Int.natCast_emod,-Int.natCast_ediv,-Int.natCast_pow,AU]):G:=p ⟨r,h,q.mpr i⟩
theorem aV[DrC]{P:Program}{g:FuncId}{b:List A}{r:R}{k:R->Prop}{G H:Prop}(h:CallsF P g b r)(i:H)(p:G9 P g b k->G:=by first|exact id|exact .inl)(q:k r=H:=by conv=>lhs;simp -implicitDefEqProofs[jJ,-Int.natCast_add,-Int.natCast_mul,AU]):G:=p ⟨r,h,q.mpr i⟩
theorem kA{G:Prop}(q:G:=by simp -implicitDefEqProofs[jJ,-Int.natCast_add,-Int.natCast_mul]):G:=q
theorem kA1{G X:Prop}(x:X)(q:X->G:=by intro x;simp -implicitDefEqProofs[jJ,-Int.natCast_add,-Int.natCast_mul,x]):G:=(q x)
theorem kA2{G X Y:Prop}(x:X)(y:Y)(q:X->Y->G:=by intro x y;simp -implicitDefEqProofs[jJ,-Int.natCast_add,-Int.natCast_mul,x,y]):G:=(q x y)
theorem kB{G:Prop}(q:G:=by simp -implicitDefEqProofs[jJ,-Int.natCast_add,-Int.natCast_mul,-Int.natCast_emod,-Int.natCast_ediv,-Int.natCast_pow]):G:=q
theorem kC{G:Prop}(q:G:=by simp -implicitDefEqProofs[jJ,-Int.natCast_add,-Int.natCast_mul,-Int.natCast_emod,-Int.natCast_ediv,-Int.natCast_pow,-List.map_set]):G:=q
theorem kF{G:Prop}(q:G:=by simp -implicitDefEqProofs[jJ,-Int.natCast_add,-Int.natCast_mul,-List.reduceReplicate]):G:=q
theorem kH{G:Prop}(q:G:=by simp -implicitDefEqProofs[jJ,-Int.natCast_add,-Int.natCast_mul,Fct.res]):G:=q
theorem kJ{G:Prop}(q:G:=by simp -implicitDefEqProofs[jJ,-Int.natCast_add,-Int.natCast_mul,arity]):G:=q
theorem kQ{G:Prop}(q:G:=by simp -implicitDefEqProofs[jJ,-Int.natCast_add,-Int.natCast_mul,-Int.natCast_emod,-Int.natCast_ediv,-Int.natCast_pow,AU]):G:=q
theorem oA[DrC]{f:FuncId}{fn:Func}{c:Code}{b:List A}{r:R}{H:Prop}(h:Go.Proofs.Tryz.prog.funcs[f]? =some fn)(i:H)(hb:fn.body=some c:=by rfl)(q:(Bl Go.Proofs.Tryz.prog tb c { t := CJ 0 b, h := [] } (HU tb fn.results.toList r))=H:=by conv=>lhs;simp -implicitDefEqProofs[jJ,-Int.natCast_add,-Int.natCast_mul])(hname:(fn.name=="runtime.NumGoroutine")=false:=by decide)(hn:b.length<=fn.ntmps:=by exact Al rfl)(hok:B6 fn.ntmps [] c=true:=by rfl):CallsF Go.Proofs.Tryz.prog f b r:=cO h hb (q.mpr i) hname hn hok
theorem oB[DrC]{f:FuncId}{fn:Func}{c:Code}{b:List A}{r:R}{H:Prop}(h:Go.Proofs.Tryz.prog.funcs[f]? =some fn)(i:H)(hb:fn.body=some c:=by rfl)(q:(Bl Go.Proofs.Tryz.prog tb c { t := CJ 0 b, h := [] } (HU tb fn.results.toList r))=H:=by conv=>lhs;simp -implicitDefEqProofs[jJ,-Int.natCast_add,-Int.natCast_mul,-Int.natCast_emod,-Int.natCast_ediv,-Int.natCast_pow])(hname:(fn.name=="runtime.NumGoroutine")=false:=by decide)(hn:b.length<=fn.ntmps:=by exact Al rfl)(hok:B6 fn.ntmps [] c=true:=by rfl):CallsF Go.Proofs.Tryz.prog f b r:=cO h hb (q.mpr i) hname hn hok
theorem oC[DrC]{f:FuncId}{fn:Func}{c:Code}{b:List A}{r:R}{H:Prop}(h:Go.Proofs.Tryz.prog.funcs[f]? =some fn)(i:H)(hb:fn.body=some c:=by rfl)(q:(Bl Go.Proofs.Tryz.prog tb c { t := CJ 0 b, h := [] } (HU tb fn.results.toList r))=H:=by conv=>lhs;simp -implicitDefEqProofs[jJ,-Int.natCast_add,-Int.natCast_mul,-Int.natCast_emod,-Int.natCast_ediv,-Int.natCast_pow,-List.map_set])(hname:(fn.name=="runtime.NumGoroutine")=false:=by decide)(hn:b.length<=fn.ntmps:=by exact Al rfl)(hok:B6 fn.ntmps [] c=true:=by rfl):CallsF Go.Proofs.Tryz.prog f b r:=cO h hb (q.mpr i) hname hn hok
theorem rA{G H:Prop}(i:H)(q:G=H:=by conv=>lhs;simp -implicitDefEqProofs[jJ,-Int.natCast_add,-Int.natCast_mul]):G:=q.mpr i
theorem rA1{G X:Prop}{H:X->Prop}(x:X)(i:H x)(q:∀x,G=H x:=by intro x;conv=>lhs;simp -implicitDefEqProofs[jJ,-Int.natCast_add,-Int.natCast_mul,x]):G:=(q x).mpr i
theorem rA2{G X Y:Prop}{H:X->Y->Prop}(x:X)(y:Y)(i:H x y)(q:∀x y,G=H x y:=by intro x y;conv=>lhs;simp -implicitDefEqProofs[jJ,-Int.natCast_add,-Int.natCast_mul,x,y]):G:=(q x y).mpr i
theorem rB{G H:Prop}(i:H)(q:G=H:=by conv=>lhs;simp -implicitDefEqProofs[jJ,-Int.natCast_add,-Int.natCast_mul,-Int.natCast_emod,-Int.natCast_ediv,-Int.natCast_pow]):G:=q.mpr i
theorem rB1{G X:Prop}{H:X->Prop}(x:X)(i:H x)(q:∀x,G=H x:=by intro x;conv=>lhs;simp -implicitDefEqProofs[jJ,-Int.natCast_add,-Int.natCast_mul,-Int.natCast_emod,-Int.natCast_ediv,-Int.natCast_pow,x]):G:=(q x).mpr i
theorem rB2{G X Y:Prop}{H:X->Y->Prop}(x:X)(y:Y)(i:H x y)(q:∀x y,G=H x y:=by intro x y;conv=>lhs;simp -implicitDefEqProofs[jJ,-Int.natCast_add,-Int.natCast_mul,-Int.natCast_emod,-Int.natCast_ediv,-Int.natCast_pow,x,y]):G:=(q x y).mpr i
theorem rC{G H:Prop}(i:H)(q:G=H:=by conv=>lhs;simp -implicitDefEqProofs[jJ,-Int.natCast_add,-Int.natCast_mul,-Int.natCast_emod,-Int.natCast_ediv,-Int.natCast_pow,-List.map_set]):G:=q.mpr i
theorem rC1{G X:Prop}{H:X->Prop}(x:X)(i:H x)(q:∀x,G=H x:=by intro x;conv=>lhs;simp -implicitDefEqProofs[jJ,-Int.natCast_add,-Int.natCast_mul,-Int.natCast_emod,-Int.natCast_ediv,-Int.natCast_pow,-List.map_set,x]):G:=(q x).mpr i
theorem rC2{G X Y:Prop}{H:X->Y->Prop}(x:X)(y:Y)(i:H x y)(q:∀x y,G=H x y:=by intro x y;conv=>lhs;simp -implicitDefEqProofs[jJ,-Int.natCast_add,-Int.natCast_mul,-Int.natCast_emod,-Int.natCast_ediv,-Int.natCast_pow,-List.map_set,x,y]):G:=(q x y).mpr i
theorem rD{G H:Prop}(i:H)(q:G=H:=by conv=>lhs;simp -implicitDefEqProofs[jJ,-Int.natCast_add,-Int.natCast_mul,i64]):G:=q.mpr i
theorem rD2{G X Y:Prop}{H:X->Y->Prop}(x:X)(y:Y)(i:H x y)(q:∀x y,G=H x y:=by intro x y;conv=>lhs;simp -implicitDefEqProofs[jJ,-Int.natCast_add,-Int.natCast_mul,i64,x,y]):G:=(q x y).mpr i
theorem rD3{G X Y Z:Prop}{H:X->Y->Z->Prop}(x:X)(y:Y)(z:Z)(i:H x y z)(q:∀x y z,G=H x y z:=by intro x y z;conv=>lhs;simp -implicitDefEqProofs[jJ,-Int.natCast_add,-Int.natCast_mul,i64,x,y,z]):G:=(q x y z).mpr i
theorem rF{G H:Prop}(i:H)(q:G=H:=by conv=>lhs;simp -implicitDefEqProofs[jJ,-Int.natCast_add,-Int.natCast_mul,-List.reduceReplicate]):G:=q.mpr i
theorem rF1{G X:Prop}{H:X->Prop}(x:X)(i:H x)(q:∀x,G=H x:=by intro x;conv=>lhs;simp -implicitDefEqProofs[jJ,-Int.natCast_add,-Int.natCast_mul,-List.reduceReplicate,x]):G:=(q x).mpr i
theorem rF2{G X Y:Prop}{H:X->Y->Prop}(x:X)(y:Y)(i:H x y)(q:∀x y,G=H x y:=by intro x y;conv=>lhs;simp -implicitDefEqProofs[jJ,-Int.natCast_add,-Int.natCast_mul,-List.reduceReplicate,x,y]):G:=(q x y).mpr i
theorem rK{G H:Prop}(i:H)(q:G=H:=by conv=>lhs;simp -implicitDefEqProofs[jJ,-Int.natCast_add,-Int.natCast_mul,-Int.natCast_emod,-Int.natCast_ediv,-Int.natCast_pow,i64]):G:=q.mpr i
theorem rR1{G X:Prop}{H:X->Prop}(x:X)(i:H x)(q:∀x,G=H x:=by intro x;conv=>lhs;simp -implicitDefEqProofs[jJ,-Int.natCast_add,-Int.natCast_mul,-List.reduceReplicate,KI,x]):G:=(q x).mpr i
end Go.Va
namespace Go.Va
open Go.Proofs Go.Proofs.Tryz
theorem EI{α:Type}{a:List α}{n:Nat}(h:n<a.length): ∃x,a[n]? =some x:=⟨_,AD h⟩
theorem Q1[DrC](a:List Nat)(g:Ok a)(h:a.length<=1099511627776):CallsF prog 343 [.c (Ad a)] (.u (.c (.d (Ad (limbs (val a)))))):=by
 rw[<-Gc a g];refine cO func343 rfl ?_;simp;refine AV (λn:Nat=>⟨[(0,vC (.d (Ad a))),(3,vI .i64 n)],[]⟩) (λn=>n<=a.length/\Bw a n=Bw a a.length) (λn=>n) a.length
  O1 ⟨AO _,rfl⟩ ?_
 rintro n ⟨i,e⟩;cases n with
 |zero=>
  have:=e.symm;simp[Bw]at this;simp[this]
 |succ n=>
  obtain⟨x,f⟩:=EI (a:=a) (n:=n) O;have h:=FF a a.length;simp[f,u16];refine⟨O,O,λb=>⟨O,n,rfl,⟨O,?_⟩,O⟩,λb=>⟨O,?_⟩⟩
  ·rw[<-e];simp[Bw,f,b]
  ·rw[<-e];simp[Bw,f,b]
@[simp]theorem lst_nil{α:Type}(e:α->D):D.slice 0 []=EC e []:=rfl
theorem EO[DrC](a:List Nat)(f:Ok a)(g:a.length<=1099511627776):CallsF prog 318 [.c (Ad a)] (.u (.c (.d (Ad (limbs (val a)))))):=by
 refine cO func318 rfl ?_;simp;refine .inl ⟨_,Q1 a f g,?_⟩;have e:=Bu a f;generalize limbs (val a)=b at e;simp;refine⟨λh=>by rw[h];rfl,λ_=>⟨O,by rw[Sk O1];simp,by rw[Sk O1];simp⟩⟩
theorem CM[DrC](a:List Nat)(h:Ok a)(i:a.length<=70368744177664):CallsF prog 208 [.c (Ad a)] (.u (.c (.d (Ad (limbs (val a)))))):=by
 rw[<-Gc a h];refine cO func208 rfl ?_;simp;refine AV (λn:Nat=>⟨[(0,vC (.d (Ad a))),(3,vI .i64 n)],[]⟩) (λn=>n<=a.length/\Bw a n=Bw a a.length) (λn=>n) a.length
  O1 ⟨AO _,rfl⟩ ?_
 rintro n ⟨g,e⟩;cases n with
 |zero=>
  have:=e.symm;simp[Bw]at this;simp[this];rfl
 |succ n=>
  obtain⟨x,f⟩:=EI (a:=a) (n:=n) O;have i:=FF a a.length;simp[f,u16];refine⟨O,O,λb=>⟨O,n,rfl,⟨O,?_⟩,O⟩,λb=>⟨O,O,?_⟩⟩
  ·rw[<-e];simp[Bw,f,b]
  ·rw[<-e,Bs g];simp[Bw,f,b,EC,Bs g]
theorem En[DrC](a:List Nat)(e:Ok a)(i:Nat)(hi:i<=140737488355328):CallsF prog 211 [.c (Ad a),.c (.int .i64 i)] (.u (.c (.d (.int .i64 (a.getD i 0))))):=by
 refine cO func211 rfl ?_;by_cases h:i<a.length
 ·have b:=e.get (AD h);simp[u16,h,b]
 ·simp[h]
theorem IA[DrC](n:Nat)(g:n<18446744073709551616):CallsF prog 342 [.c (.int .u64 n)] (.u (.c (.d (Ad (limbs n))))):=by
 refine cO func342 rfl ?_;simp;refine CE [(3,12)] (λp:List Nat×Nat=>⟨[(0,vI .u64 p.2),(3,vC (.sl 3 0 p.1.length))],[(3,.row 1 (p.1.map u16) true)]⟩)
  (λp=>limbs n=p.1++limbs p.2/\p.2<18446744073709551616/\p.1.length+(limbs p.2).length<=4) (λp=>p.2) ([],n)
  O1 ⟨rfl,g,by grind[GE]⟩ ?_
 rintro⟨l,m⟩ ⟨a,f,b⟩;by_cases e:m=0
 ·simp_all[Cm]
 ·rw[EF e]at a b;simp only[List.length_cons]at a f b;simp[e];refine λ_=>⟨O,l++[m%65536],m/65536,⟨⟨Lf .u64 m 16 O2,O1⟩,by simp[u16]⟩,O3,O⟩
theorem C6[DrC](n:Nat)(h:n<18446744073709551616):CallsF prog 130 [.c (.int .u64 n)] (.u (.c (.d (Ad (limbs n))))):=by
 refine cO func130 rfl ?_;simp;refine CE [(3,11)] (λp:List Nat×Nat=>⟨[(0,vI .u64 p.2),(3,vC (.sl 3 0 p.1.length))],[(3,.row 1 (p.1.map u16) true)]⟩)
  (λp=>limbs n=p.1++limbs p.2/\p.2<18446744073709551616/\p.1.length+(limbs p.2).length<=4) (λp=>p.2) ([],n)
  O1 ⟨rfl,h,by grind[GE]⟩ ?_
 rintro⟨l,m⟩ ⟨a,g,b⟩;by_cases e:m=0
 ·simp_all[Cm]
 ·rw[EF e]at a b;simp only[List.length_cons]at a g b;have f:(m:Int).tmod 65536=((m%65536:Nat):Int):=O5;simp[e,f];refine λ_=>⟨O,l++[m%65536],m/65536,⟨O3,by grind[u16,Zs]⟩,O3,O⟩
theorem Tc(a:Nat):cmp3 a a=0:=by simp[cmp3]
theorem IZ{a b:Nat}(h:a<b):cmp3 a b= -1:=by simp[cmp3,h]
theorem NM{a b:Nat}(h:b<a):cmp3 a b=1:=by grind[cmp3]
theorem Jr[DrC](a b:List Nat)(f:Ok a)(o:a.length<=1099511627776)(g:Ok b)(v:b.length<=1099511627776):CallsF prog 254 [.c (Ad a),.c (Ad b)] (.u (.c (.d (.int .i64 (cmp3 (val a) (val b)))))):=by
 refine cO func254 rfl ?_;simp;refine .inl ⟨_,Q1 a f o,?_⟩;simp;refine .inl ⟨_,Q1 b g v,?_⟩;have r:=Bu a f;have t:=Bu b g;have E:=Aw (val a);have F:=Aw (val b);have H:=Az (val a);have I:=Az (val b);have G:=RV (a:=val a) (b:=val b);have L:=RV (a:=val b) (b:=val a);generalize limbs (val a)=x at*;generalize limbs (val b)=y at*;simp;refine⟨λw=>⟨λh=> ?_,λh=> ?_⟩,λJ=> ?_⟩
 ·rw[IZ (G h)]
 ·grind[NM]
 refine⟨O,?_⟩;refine AV (λn:Nat=>⟨[(0,vC (.d (Ad x))),(1,vC (.d (Ad y))),(5,vI .i64 ((n:Int) - 1))],[]⟩) (λn=>n<=x.length/\ ∀j,n<=j->x.getD j 0=y.getD j 0) (λn=>n) x.length
  O1 ⟨AO _,λj e=> ?_⟩ ?_
 ·rw[AL,AL,B9 e,B9 O]
 rintro n ⟨K,z⟩;cases n with
 |zero=>
  simp;grind[Hz,Tc]
 |succ n=>
  obtain⟨p,i⟩:=EI (a:=x) (n:=n) O;obtain⟨q,k⟩:=EI (a:=y) (n:=n) O;simp;refine AA (Ah [0,0,3,7,0,0,48,112,255]) [.any [] [] (Aq [[0],[5],[27,28],[29],[1],[5],[31,32],[33]]),.one] O5 ?_;simp[i,k,u16];have l:x.getD n 0=p:=O3;have m:y.getD n 0=q:=O3;refine⟨O,O,λh=> ?_,λh=> ?_⟩
  ·grind[IZ,H8]
  refine AA (Ah [0,0,3,7,0,0,48,112,255]) [.any [] [] (Aq [[0],[5],[36,37],[38],[1],[5],[40,41],[42]]),.one] O5 ?_;simp[i,k,u16];refine⟨O,O,λh=> ?_,λh=>⟨O,n,rfl,⟨O,?_⟩,O⟩⟩
  ·rw[<-H,<-I,NM (H8 n y x F E (λj e=>(z j e).symm) (by rw[l,m];exact h))]
  ·intro j e;rw[<-AL,<-AL];grind
theorem Iq[DrC](a b:List Nat)(e:Ok a)(l:a.length<=140737488355328)(f:Ok b)(m:b.length<=140737488355328):CallsF prog 305 [.c (Ad a),.c (Ad b)] (.u (.c (.d (.int .i64 (cmp3 (val a) (val b)))))):=by
 refine cO func305 rfl ?_;simp;refine⟨by split<;>omega,?_⟩;refine AV (λn:Nat=>⟨[(0,vC (.d (Ad a))),(1,vC (.d (Ad b))),(5,vI .i64 ((n:Int) - 1))],[]⟩) (λn=>n<=140737488355328/\ ∀j,n<=j->a.getD j 0=b.getD j 0) (λn=>n) (max a.length b.length)
  (by simp;split<;>omega) ⟨O,λj g=> ?_⟩ ?_
 ·rw[AL,AL,B9 O,B9 O]
 rintro n ⟨o,k⟩;cases n with
 |zero=>
  simp;grind[Hz,Tc]
 |succ n=>
  simp;refine .inl ⟨_,En a e n O,?_⟩;simp;refine .inl ⟨_,En b f n O,?_⟩;simp;refine⟨λh=> ?_,λh=> .inl ⟨_,En a e n O,?_⟩⟩
  ·rw[IZ (H8 n a b e f O3 (by simpa using h))]
  simp;refine .inl ⟨_,En b f n O,?_⟩;simp;refine⟨λi=> ?_,λi=>⟨O,n,rfl,⟨O,λj g=> ?_⟩,O⟩⟩
  ·rw[NM (H8 n b a f e (λj g=>(k j g).symm) (by simpa using i))]
  ·rcases Nat.eq_or_lt_of_le g with h1|h1
   ·rw[<-h1];omega
   grind
theorem Oo(i:Nat):65536^i=2^(16*i):=by
 rw[Nat.pow_mul]
theorem Wr(m x i:Nat)(e:m<65536^i)(g:x<65536)(hi:i<4):Da .u64 (m:Int) (CW .u64 ((x%18446744073709551616:Nat):Int) ((16*i:Nat):Int))=((m+65536^i*x:Nat):Int):=by
 have f:65536^i*65536<=18446744073709551616:=by
  rw[<-CZ,<-Nat.pow_succ];exact Nat.pow_le_pow_right O O
 have b:65536^i*x+65536^i<=18446744073709551616:=by
  have:65536^i*(x+1)<=65536^i*65536:=Nat.mul_le_mul_left _ O;grind
 rw[AX (a:=x) O,QL _ _ O,<-Oo,Nat.mul_comm x,AX O,QU _ _ O O];grind[Oo,IM]
def EL(n:Nat):Bool:=decide (n<18446744073709551616)
def FV(n:Nat):Nat:=if EL n then n else 0
theorem fits64_iff{n:Nat}:EL n=true↔n<18446744073709551616:=by simp[EL]
theorem S4[DrC](a:List Nat)(f:Ok a)(l:a.length<=1099511627776):CallsF prog 341 [.c (Ad a)]
  (.tup [.c (.d (.int .u64 (FV (val a)))),.c (.d (.bool (EL (val a))))]):=by
 refine cO func341 rfl ?_;simp;refine .inl ⟨_,Q1 a f l,?_⟩;have m:=Bu a f;have i:=Aw (val a);have v:=Az (val a);have j:(limbs (val a)).length<=4↔EL (val a)=true:=by grind[fits64_iff,GE,val]
 generalize limbs (val a)=x at*;simp;refine⟨λh=> ?_,λh=> ?_⟩
 ·have:EL (val a)=false:=O3;grind[FV]
 have t:=j.1 O;refine AV (λn:Nat=>⟨[(14,vI .i64 n),(13,vI .i64 x.length),(12,vC (.d (Ad x))),(4,vI .u64 (val (x.take n):Nat))],[]⟩) (λn=>n<=x.length) (λn=>x.length - n) 0
  (by simp[val]) O ?_
 intro n r;by_cases b:n<x.length
 ·obtain⟨p,g⟩:=EI b;have q:=i.get g;have e:x[n]? =some x[n]:=O1;rw[g]at e;cases e;have o:n<4:=O;have k:=Bz (x.take n) (i.take n);rw[A8,Bs O]at k;simp[b,u16];refine⟨O,O,O,n+1,⟨O,?_⟩,O,O⟩;grind[Dp,Wr]
 simp_all[Ba,FV]
theorem OX[DrC](a:List Nat)(e:Ok a)(h:a.length<=4):CallsF prog 306 [.c (Ad a)] (.u (.c (.d (.int .u64 (val a))))):=by
 refine cO func306 rfl ?_;simp;refine⟨O,?_⟩;refine AV (λn:Nat=>⟨[(0,vC (.d (Ad a))),(3,vI .u64 (val (a.drop n):Nat)),(4,vI .i64 ((n:Int) - 1))],[]⟩) (λn=>n<=a.length) (λn=>n) a.length
  (by simp[val]) (AO _) ?_
 intro n i;cases n with
 |zero=>simp
 |succ n=>
  have b:n<a.length:=O;have j:=e.get (AD b);simp[b,u16];refine⟨O,n,⟨?_,rfl⟩,O,O⟩;have g:=Bz (a.drop n) (e.drop n);have f:65536^(a.drop n).length<=65536^4:=Nat.pow_le_pow_right O (by simp;omega);grind[CZ,Wf,List.getElem?_eq_getElem]
def Nr(a:List Nat):Bool:=decide (a.getLast? ≠some 0)
theorem Zb[DrC](a:List Nat)(b:a.length<=140737488355328):CallsF prog 310 [.c (Ad a)] (.u (.c (.d (.bool (Nr a))))):=by
 unfold Nr;refine cO func310 rfl ?_;rcases List.eq_nil_or_concat a with rfl|⟨l,x,rfl⟩
 ·simp
 ·simp at b;simp[u16];omega
theorem jhw[DrC](a b:List Nat)(i:a.length<=140737488355328):CallsF prog 311 [.c (Ad a),.c (Ad b)] (.u (.c (.d (.bool (decide (a=b)))))):=by
 refine cO func311 rfl ?_;simp;refine⟨O3,λh=> ?_⟩;refine AV (λn:Nat=>⟨[(0,vC (.d (Ad a))),(1,vC (.d (Ad b))),(5,vI .i64 n)],[]⟩) (λn=>n<=a.length/\a.take n=b.take n) (λn=>a.length - n) 0
  O1 O1 ?_
 rintro n ⟨j,k⟩;by_cases e:n<a.length
 ·have f:n<b.length:=O;simp[e];refine AA (Ah [0,0,3,7,0,0,48,112,255]) [.any [] [] (Aq [[0],[5],[17,18],[19],[1],[5],[21,22],[23]]),.one] O5 ?_;simp[e,f,u16];refine⟨O3,λg=>⟨O,n+1,O,⟨O,?_⟩,O⟩⟩;grind[List.take_add_one,List.getElem?_eq_getElem]
 ·simp[e];grind
theorem EK[DrC](a:List Nat):CallsF prog 224 [.c (Ad a)] (.u (.c (.d (.bool (decide (a=[1])))))):=by
 refine cO func224 rfl ?_;cases a with
 |nil=>simp
 |cons x a=>
  simp[u16];have b:decide ((a.length:Int)+1=1)=decide (a=[]):=by
   rw[decide_eq_decide,<-jzv];omega
  grind
theorem Ir[DrC]:CallsF prog 252 [] (.u (.c (.d (Ad [1])))):=by
 refine cO func252 rfl ?_;simp;rfl
end Go.Va
namespace Go.Va
variable{c o y a:Nat}
theorem Ub{p x v V:Nat}(h:v+p*c=V)(b:a+p*o=v+p*((c+(o+x*y))%65536)):
  a+p*65536*((c+(o+x*y))/65536)=V+p*(x*y):=by
 grind[Nat.div_add_mod,Nat.mul_assoc,Nat.mul_add]
theorem jih{p x v V:Nat}(h:v+p*c=V)(b:a+p*o=v+p*((o+x*y+c)%65536)):
  a+p*65536*((o+x*y+c)/65536)=V+p*(x*y):=by
 grind[Nat.add_comm,Ub]
theorem TU{i k x v V:Nat}{b:List Nat}(h:v+65536^(i+k)*c=V+65536^i*(x*val (b.take k)))(e:a+65536^(i+k)*o=v+65536^(i+k)*((o+x*y+c)%65536))
  (f:val (b.take (k+1))=val (b.take k)+65536^k*y):a+65536^(i+(k+1))*((o+x*y+c)/65536)=V+65536^i*(x*val (b.take (k+1))):=by
 have:=jih h e;grind
end Go.Va
namespace Go.Va
open _root_.List renaming map_set → aD, getElem?_eq_getElem → aG, getElem?_set → aL, replicate → aM
open _root_.Option renaming getD_some → aH
open _root_.Nat renaming zero_le → aI, mul_assoc → aJ, mul_le_mul → aN, mul_zero → aO, add_mul → aP
open Int renaming natCast_add → qA, natCast_mul → qB, natCast_emod → qC, natCast_ediv → qD, natCast_pow → qE
open Go.Proofs Go.Proofs.Tryz
def Ru:List (List Nat):=(Ah [0,0,0,6,15,31,63,0,0,384,896,1920,0,0,12288,28672,65408,131071,0,524287,1048575])
@[simp]def RE:List Seg:=[.any [] [] (Aq [[5],[6],[8],[34,35],[33,36],[37],[38],[0],[6],[40,41],[42],[43],[1],[8],[45,46],[47],[44,48],[39,49],[7]]),.one,.one]
theorem jpQ[DrC](a b:List Nat)(J:Ok a)(hl:a.length<=274877906944)(K:Ok b)(hm:b.length<=274877906944):CallsF prog 256 [.c (Ad a),.c (Ad b)] (.u (.c (.d (Ad (limbs (val a*val b)))))):=by
 refine oC func256 ?_;refine .inl ⟨_,Q1 a J O,?_⟩;refine rC ?_;refine .inl ⟨_,Q1 b K O,?_⟩;have W:=Bu a J;have X:=Bu b K;have oa:=Aw (val a);have ob:=Aw (val b);have va:=Az (val a);have vb:=Az (val b);generalize limbs (val a)=x at*;generalize limbs (val b)=y at*;by_cases w:x=[]
 ·subst w;simp;rw[<-va,KN,Nat.zero_mul];rfl
 by_cases M:y=[]
 ·subst M;simp[w];rw[<-vb,KN,aO];rfl
 have hx0:x.length≠0:=O3;have hy0:y.length≠0:=O3;refine rC2 w M ?_;refine⟨O,O,?_⟩;refine AV (λp:Nat×List Nat=>⟨[(0,vC (.d (Ad x))),(1,vC (.d (Ad y))),(29,vC (.d (Ad x))),(30,vI .i64 x.length),(31,vI .i64 p.1),(5,vC (.sl 28 0 p.2.length))],[(28,.row 1 (p.2.map u16) true)]⟩)
  (λp=>p.1<=x.length/\Ok p.2/\p.2.length=x.length+y.length/\val p.2=val (x.take p.1)*val y/\ ∀j,p.1+y.length<=j->p.2.getD j 0=0) (λp=>x.length - p.1) (0,aM (x.length+y.length) 0)
  (by simp[IW]) ⟨aI _,λz hz=>O3,O1,by simp[Oi,val],O3⟩ ?_
 rintro⟨i,E⟩ ⟨G,r,H,I,Q⟩;by_cases hi:i<x.length
 ·have hxi:=oa.get (AD hi);simp only at G r H I Q;simp -implicitDefEqProofs[jJ,-qA,-qB,-qC,-qD,-qE,-aD,hi,u16];refine AV (λq:Nat×Nat×List Nat=>⟨[(0,vC (.d (Ad x))),(1,vC (.d (Ad y))),(29,vC (.d (Ad x))),(30,vI .i64 x.length),(31,vI .i64 i),(5,vC (.sl 28 0 q.2.2.length)),
    (6,vI .i64 i),(7,vI .u16 x[i]),(8,vI .u32 q.2.1),(36,vC (.d (Ad y))),(37,vI .i64 y.length),(38,vI .i64 q.1)],[(28,.row 1 (q.2.2.map u16) true)]⟩)
   (λq=>q.1<=y.length/\q.2.1<65536/\Ok q.2.2/\q.2.2.length=x.length+y.length/\val q.2.2+65536^(i+q.1)*q.2.1=val E+65536^i*(x[i]*val (y.take q.1))/\ ∀j,i+y.length<=j->q.2.2.getD j 0=0)
   (λq=>y.length - q.1) (0,0,E) O1 (by simp_all[aI,val]) ?_
  rintro⟨k,c,o⟩ ⟨N,h,g,l,F,m⟩;simp only at N h g l F m;by_cases t:k<y.length
  ·have hyk:=ob.get (AD t);have e:i+k<o.length:=O;have Z:=g.get (AD e);simp -implicitDefEqProofs[jJ,-qA,-qB,-qC,-qD,-qE,-aD,t,e,u16];have hxy:x[i]*y[k]<=65535*65535:=aN O O;have S:c+(o[i+k]+x[i]*y[k])<4294967296:=O;rw[AX S];have f:=IL (a:=o) (i:=i+k) (x:=(c+(o[i+k]+x[i]*y[k]))%65536) e;rw[AL,AD e,aH]at f;have Y:=Ub F f;refine⟨O,O,O,k+1,(c+(o[i+k]+x[i]*y[k]))/65536,o.set (i+k) ((c+(o[i+k]+x[i]*y[k]))%65536),O1,
    ⟨t,O,g.set _ O,by simpa using l,?_,λj T=> ?_⟩,O⟩
   ·grind[Nat.add_assoc,Nat.pow_succ,Dp,aG,Nat.pow_add,Nat.mul_add,Nat.mul_left_comm,aJ]
   grind
  ·have L:i+y.length<o.length:=O;have v:k=y.length:=O;subst v;refine rC1 L ?_;have f:=IL (a:=o) (i:=i+y.length) (x:=c) L;have P:=m (i+y.length) (AO _);rw[P]at f;refine⟨O,O,O,i+1,o.set (i+y.length) c,⟨⟨rfl,O1⟩,by rw[AX h]⟩,⟨hi,g.set _ h,by simpa using l,?_,λj T=> ?_⟩,O⟩
   ·grind[List.take_length,Dp,aG,aP,aJ]
   ·have:=m j O;grind
 ·simp only at G r H I;simp -implicitDefEqProofs[jJ,-qA,-qB,-qC,-qD,-qE,-aD,hi];refine .inl ⟨_,Q1 E r O,?_⟩;simp_all[aD,jaW,Int.natCast_add,Int.natCast_mul,Int.natCast_emod,Int.natCast_ediv,Int.natCast_pow,XW,SS,jcn,WN,jeM,jgi,Sy,jjm,Pc,VD,TV,jf4,QG,jfQ,jcP,jhO,jer,jhd,jfc,Xt,jca,jfu,jap,jcG,jaL,Ba]
theorem LR[DrC](a b:List Nat)(P:Ok a)(E:Ok b)(S:a.length+b.length+1<=70368744177664):CallsF prog 298 [.c (Ad a),.c (Ad b)] (.u (.c (.d (Ad (limbs (val a*val b)))))):=by
 refine oC func298 ?_;refine⟨O,O,O,?_⟩;refine AV (λp:Nat×List Nat=>⟨[(0,vC (.d (Ad a))),(1,vC (.d (Ad b))),(6,vI .i64 p.1),(5,vC (.sl 16 0 p.2.length))],[(16,.row 1 (p.2.map u16) true)]⟩)
  (λp=>p.1<=a.length/\Ok p.2/\p.2.length=a.length+b.length+1/\val p.2=val (a.take p.1)*val b/\ ∀j,p.1+b.length<=j->p.2.getD j 0=0) (λp=>a.length - p.1) (0,aM (a.length+b.length+1) 0)
  (by simp[IW,List.replicate_succ]) ⟨aI _,λz v=>O3,O1,by simp[Oi,val],O3⟩ ?_
 rintro⟨i,G⟩ ⟨H,y,I,J,N⟩;by_cases hi:i<a.length
 ·have W:=P.get (AD hi);simp only at H y I J N;simp -implicitDefEqProofs[jJ,-qA,-qB,-qC,-qD,-qE,-aD,hi];refine AV (λq:Nat×Nat×List Nat=>⟨[(0,vC (.d (Ad a))),(1,vC (.d (Ad b))),(6,vI .i64 i),(5,vC (.sl 16 0 q.2.2.length)),(7,vI .u64 q.2.1),(8,vI .i64 q.1)],[(16,.row 1 (q.2.2.map u16) true)]⟩)
   (λq=>q.2.1<65536/\Ok q.2.2/\q.2.2.length=a.length+b.length+1/\val q.2.2+65536^(i+q.1)*q.2.1=val G+65536^i*(a[i]*val (b.take q.1))/\
    ((q.1<=b.length/\ ∀j,i+b.length<=j->q.2.2.getD j 0=0)\/(q.1=b.length+1/\q.2.1=0/\ ∀j,i+1+b.length<=j->q.2.2.getD j 0=0)))
   (λq=>b.length+1 - q.1) (0,0,G) O1 (by simp_all[val,aI]) ?_
  rintro⟨k,c,o⟩ ⟨L,l,t,w,M⟩;simp only at L l t w M;by_cases m:k<b.length
  ·have Y:=E.get (AD m);have e:i+k<o.length:=O;have r:=l.get (AD e);refine rC1 m ?_;refine AA Ru RE O5 ?_;simp -implicitDefEqProofs[jJ,-qA,-qB,-qC,-qD,-qE,-aD,hi,e,u16];refine⟨O,_,En b E k O,?_⟩;have g:b.getD k 0=b[k]:=O3;rw[g];refine rC1 e ?_;have X:a[i]*b[k]<=65535*65535:=aN O O;have Z:o[i+k]+a[i]*b[k]+c<4294967296:=O;have f:=IL (a:=o) (i:=i+k) (x:=(o[i+k]+a[i]*b[k]+c)%65536) e;rw[AL,AD e,aH]at f;have h:=TU w f (by rw[Dp m,g]);have v: ∀j,i+b.length<=j->o.getD j 0=0:=by
    grind
   refine⟨O,O,O,k+1,(o[i+k]+a[i]*b[k]+c)/65536,o.set (i+k) ((o[i+k]+a[i]*b[k]+c)%65536),O3,
    ⟨O,l.set _ O,by simpa using t,h,.inl ⟨m,λj F=> ?_⟩⟩,O⟩
   rw[aL,if_neg O,<-AL];exact v j F
  ·by_cases Q:0<c
   ·obtain⟨hk1,v⟩:k<=b.length/\ ∀j,i+b.length<=j->o.getD j 0=0:=by
     grind
    obtain rfl:k=b.length:=O;have e:i+b.length<o.length:=O;refine rC1 Q ?_;refine AA Ru RE O5 ?_;simp -implicitDefEqProofs[jJ,-qA,-qB,-qC,-qD,-qE,-aD,hi,e,u16];refine⟨O,_,En b E b.length O,?_⟩;have g:b.getD b.length 0=0:=O1;have r:o[i+b.length]=0:=by
     have:=v (i+b.length) (AO _);rwa [AL,AD e,aH]at this
    generalize b.getD b.length 0=z at*;refine rC1 e ?_;subst g;have f:=IL (a:=o) (i:=i+b.length) (x:=(o[i+b.length]+a[i]*0+c)%65536) e;rw[AL,AD e,aH]at f;have h:=TU w f O3;rw[r,aO,Nat.add_zero,Nat.zero_add]at*;have K:c/65536=0:=O;rw[K]at h;refine⟨O,O,O,b.length+1,0,o.set (i+b.length) (c%65536),O3,
     ⟨O,l.set _ O,by simpa using t,h,.inr ⟨rfl,rfl,λj F=> ?_⟩⟩,O⟩
    rw[aL,if_neg O,<-AL];grind
   ·obtain rfl:c=0:=O;refine rC1 m ?_;have T:val o=val (a.take (i+1))*val b:=by
     grind[List.take_of_length_le,Dp,aG,aP,aJ]
    refine⟨O,i+1,o,O1,⟨hi,l,t,T,λj F=> ?_⟩,O⟩;rw[<-AL];grind
 ·simp only at H y I J;simp -implicitDefEqProofs[jJ,-qA,-qB,-qC,-qD,-qE,-aD,hi];refine .inl ⟨_,CM G y O,?_⟩;simp_all[aD,jaW,Int.natCast_add,Int.natCast_mul,Int.natCast_emod,Int.natCast_ediv,Int.natCast_pow,XW,SS,jcn,WN,jeM,jgi,Sy,jjm,Pc,VD,TV,jf4,QG,jfQ,jcP,jhO,jer,jhd,jfc,Xt,jca,jfu,jap,jcG,jaL,Ba]
theorem jlz[DrC](a b:List Nat)(e:Ok a)(g:a.length<=274877906944)(f:Ok b)(h:b.length<=274877906944):CallsF prog 298 [.c (Ad a),.c (Ad b)] (.u (.c (.d (Ad (limbs (val a*val b)))))):=(by grind[LR])
end Go.Va
