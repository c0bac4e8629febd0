/- a part of the proof -/
import Derived.Test.YtlgoebgnbkhmmaaGreatDoorZba
import Derived.Test.YtlgoebgnbkhmmaaGreatDoorZbd
import Derived.Test.YtlgoebgnbkhmmaaGreatDoorZat
set_option linter.all false
set_option maxHeartbeats 4000000
set_option maxRecDepth 10000
namespace Go.Va
open Int renaming natCast_add → qA, natCast_mul → qB, natCast_emod → qC, natCast_ediv → qD, natCast_pow → qE
open List renaming reduceReplicate → qF
open Go.Proofs
def Hf(s:Ps)(ns:List ByteArray):Blk:= .box [.d (.slice s.l.length (strsD s.l)),.d (AT s.p),.d (A6 ns),.d (.int .i64 s.e),.d (.int .i64 s.a),.d (.int .i64 s.r)]
def AQ(s:Ps)(ns:List ByteArray):List (Nat×Blk):=[(20,Hf s ns)]
@[simp]theorem jnc(s:Ps)(ns:List ByteArray):(Hf s ns).ld 2=some (.c (.d (A6 ns))):=rfl
@[simp]theorem jm9(s:Ps)(ns:List ByteArray):(Hf s ns).ld 5=some (.c (.d (.int .i64 s.r))):=rfl
@[simp]theorem jna(s:Ps)(ns:List ByteArray):(Hf s ns).ld 4=some (.c (.d (.int .i64 s.a))):=rfl
theorem H9(s:Ps)(ns:List ByteArray): ∀i cs,lk i (AQ s ns)≠some (.gh cs):=fun i cs h=>by
 simp only[AQ,lk,Hf]at h;split at h<;>cases h
def PC(f:FuncId)(us:List U)(ns:List ByteArray)(s s':Ps)(v:V):Prop:=GJ Tryz.prog f (.c (.ptr 20 0)::us) [.ptr 20 0] [.ptr 20 0] (AQ s ns) (AQ s' ns) v
@[simp]theorem jnd(k:Nat):KE k []=[]:=rfl
@[simp]theorem jne(k:Nat)(u:U)(r:List U):KE k (u::r)=(k,.u u)::KE (k+1) r:=rfl
@[simp]theorem GID_val:Cv=3000000000000:=rfl
theorem Kr{rs:List ResultVar}{b:Blk}{v:V}{e:Exit}{t:List (Nat×V)}{h:List (Nat×Blk)}(he:e= .ret∨e= .normal)(hg:lk Cv h=some (.gh [.ptr 20 0]))(hb:lk 20 h=some b)(hB:b.on (B1 [20])=b)
  (hr:St.res tb ⟨t,h⟩ rs=some v) (hv:v.on (B1 [20])=v):Lc tb rs [.ptr 20 0] [(20,b)] v e ⟨t,h⟩:=by
 refine⟨he,[],none,[.ptr 20 0],hg,rfl,.inr ⟨v,hr,hv.symm⟩,?_,trivial⟩
 show lk 20 ((⟨t,h⟩:St).clean [20]).h=some _
 unfold St.clean St.on;simp only;rw[FZ,if_neg (by decide),BN,hb]
 exact congrArg some hB
theorem TZ{rs:List ResultVar}{b0 b:Blk}{v:V}{e:Exit}{t:List (Nat×V)}{h:List (Nat×Blk)}(he:e= .ret∨e= .normal)(hg:lk Cv h=some (.gh [.ptr 20 0]))(hb:lk 20 h=some b0)(hB:b0.dat.on (B1 [20])=b)
  (hr:St.res tb ⟨t,h.map fun e=>(e.1,e.2.dat)⟩ rs=some v) (hv:v.on (B1 [20])=v):Lc tb rs [.ptr 20 0] [(20,b)] v e ⟨t,h⟩:=by
 have e0:(rns [] (⟨t,h⟩:St)).fin (some [])=⟨t,h.map fun e=>(e.1,e.2.dat)⟩:=rfl
 refine⟨he,[],some [],[.ptr 20 0],?_,rfl,?_⟩
 ·rw[e0]
  show lk Cv (h.map fun e=>(e.1,e.2.dat))=_
  rw[BN,hg]
  rfl
 ·rw[e0]
  refine⟨.inr ⟨v,hr,hv.symm⟩,?_,trivial⟩
  show lk 20 ((⟨t,h.map fun e=>(e.1,e.2.dat)⟩:St).clean [20]).h=some _
  unfold St.clean St.on;simp only;rw[FZ,if_neg (by decide),BN,BN,hb]
  exact congrArg some hB
theorem P3(ns:List ByteArray)(s:Ps)(x:Int):PC 178 [.c (.d (.int .i64 x))] ns s (s.fail x) (.tup []):=by
 unfold PC;refine Z3 [] (T:=tb) Ak mixed Tryz.func178 rfl (by decide) (Al rfl) (Al rfl) rfl rfl (H9 _ _) (H9 _ _) ?_;unfold St.initG St.initH
 generalize hs:s.fail x=s';obtain⟨l,p,e,a,r⟩:=s;unfold AQ Hf;unfold Ps.fail at hs;by_cases h:r=0
 ·subst h;simp only[if_true]at hs;cases p with
  |nil=>
   subst hs;simp -implicitDefEqProofs[jJ,-qA,-qB];exact Kr (.inr rfl) rfl rfl rfl rfl rfl
  |cons y p=>
   subst hs;simp -implicitDefEqProofs[jJ,-qA,-qB,i64];exact Kr (.inr rfl) rfl rfl rfl rfl rfl
 ·simp only[if_neg h]at hs;subst hs;simp -implicitDefEqProofs[jJ,-qA,-qB,h];exact Kr (.inl rfl) rfl rfl rfl rfl rfl
theorem Dc{f:FuncId}{us us':List U}{ns:List ByteArray}{s s':Ps}{v:V}{dst:Option Nat}{st:St}{K:St→Prop}(h:PC f us' ns s s' v)(hu:us.map (U.on (B1 [20]))= .c (.ptr 20 0)::us')(hv: ∀x r,v≠ .tr x r)(hb:lk 20 st.h=some (Hf s ns))
  (k:K (st.backH dst [20] [] [.ptr 20 0] [.ptr 20 0] (AQ s' ns) v)):Kl Tryz.prog dst st K f [] us:=
 .inr (.inr (.inr (.inl (.inr (.inr (.inr (.inr (.inr ⟨rfl,[.ptr 20 0],[.ptr 20 0],AQ s ns,AQ s' ns,v,[20],[],by rw[hu];exact h,hv,
  ⟨fun i b hi=>by simp only[AQ,lk]at hi;split at hi<;>cases hi;rename_i e;exact⟨by simp[e],_,e ▸ hb,rfl⟩,fun i hi=>by rw[List.mem_singleton.1 hi];rfl,fun i b hi=>by simp only[AQ,lk]at hi;split at hi<;>cases hi;rename_i e;exact .inl (by simp[e])⟩,k⟩))))))))
def L7(o:Option ByteArray):V:= .tup [.c (.d (.str (o.getD ⟨#[]⟩))),.c (.d (.bool o.isSome))]
theorem UC(ns:List ByteArray)(s:Ps):PC 175 [] ns s s (L7 s.nx):=by
 unfold PC;refine Z3 [] (T:=tb) Ak mixed Tryz.func175 rfl (by decide) (Al rfl) (Al rfl) rfl rfl (H9 _ _) (H9 _ _) ?_;unfold St.initG St.initH
 obtain⟨l,p,e,a,r⟩:=s
 unfold AQ Hf Ps.nx L7;simp only;by_cases h:r=0
 ·subst h;cases l with
  |nil=>
   simp -implicitDefEqProofs[jJ,-qA,-qB];exact Kr (.inl rfl) rfl rfl rfl rfl rfl
  |cons y l=>
   simp -implicitDefEqProofs[jJ,-qA,-qB,strsD];exact Kr (.inl rfl) rfl rfl rfl rfl rfl
 ·simp -implicitDefEqProofs[jJ,-qA,-qB,h];exact Kr (.inl rfl) rfl rfl rfl rfl rfl
theorem UA(ns:List ByteArray)(s:Ps)(hl:s.l≠[])(hp:s.p≠[]):PC 256 [] ns s s.pass (.tup []):=by
 unfold PC;refine Z3 [] (T:=tb) Ak mixed Tryz.func256 rfl (by decide) (Al rfl) (Al rfl) rfl rfl (H9 _ _) (H9 _ _) ?_;unfold St.initG St.initH
 obtain⟨l,p,e,a,r⟩:=s
 unfold AQ Hf Ps.pass;cases l with
 |nil=>exact absurd rfl hl
 |cons x l=>
  cases p with
  |nil=>exact absurd rfl hp
  |cons y p=>
   refine AA (Ah [0,0,0,4,12,28,60,0,128,384,896,1920,2045,6141,14333,32767,65535,131071]) [.any [] [] [⟨0,[0],[],[],[]⟩,⟨0,[0],[20],[],[]⟩,⟨0,[0],[],[],[]⟩,⟨0,[4],[],[],[]⟩,⟨0,[5],[],[],[]⟩,⟨0,[6],[],[],[]⟩,⟨0,[7],[],[],[]⟩,⟨0,[0],[],[],[]⟩,⟨0,[9],[],[],[]⟩,⟨0,[10],[],[],[]⟩,⟨0,[11],[],[],[]⟩,⟨0,[12],[20],[],[]⟩,⟨0,[2],[],[],[]⟩,⟨0,[14],[],[],[]⟩,⟨2,[8,15],[],[],[20]⟩],.one,.one,.one] (by rfl) ?_
   simp -implicitDefEqProofs[jJ,-qA,-qB,strsD];exact Kr (.inr rfl) rfl rfl rfl rfl rfl
theorem Ps.nx_some{s:Ps}{w:ByteArray}(h:s.nx=some w):s.r=0∧ ∃l,s.l=w::l:=by
 unfold Ps.nx at h;split at h
 ·rename_i h0
  cases hl:s.l with
  |nil=>rw[hl]at h;cases h
  |cons x l=>rw[hl]at h;cases h;exact⟨h0,l,rfl⟩
 ·cases h
theorem TL(ns:List ByteArray)(s:Ps)(w:List UInt8)(h:s.l.length=s.p.length):PC 173 [.c (.d (.str (Ch w)))] ns s (s.must w) (.tup []):=by
 have k1:=UC ns s;have k2:=P3 ns s 5;have k3:=UA ns s;unfold PC Ps.must;refine Z3 [] (T:=tb) Ak mixed Tryz.func173 rfl (by decide) (Al rfl) (Al rfl) rfl rfl (H9 _ _) (H9 _ _) ?_;unfold St.initG St.initH
 unfold AQ L7 at*;cases hn:s.nx with
 |none=>
  rw[hn]at k1
  simp -implicitDefEqProofs[jJ,-qA,-qB];refine .inr (Dc k1 rfl (fun x r e=>by cases e) rfl ?_)
  simp -implicitDefEqProofs[jJ,-qA,-qB,AQ,St.backH,St.on,Fs,GM,C.same,V.on,U.on,C.on];refine .inr (Dc k2 rfl (fun x r e=>by cases e) rfl ?_)
  simp -implicitDefEqProofs[jJ,-qA,-qB,AQ,St.backH,St.on,Fs,GM,C.same,V.on,U.on,C.on];exact Kr (.inl rfl) rfl rfl rfl rfl rfl
 |some y=>
  rw[hn]at k1
  obtain⟨h0,l,hl⟩:=Ps.nx_some hn
  by_cases hw:y=Ch w
  ·subst hw;rw[if_pos rfl];simp -implicitDefEqProofs[jJ,-qA,-qB];refine .inr (Dc k1 rfl (fun x r e=>by cases e) rfl ?_)
   simp -implicitDefEqProofs[jJ,-qA,-qB,AQ,St.backH,St.on,Fs,GM,C.same,V.on,U.on,C.on,Gw,G6];refine .inr (Dc (k3 (by rw[hl];simp) (fun e=>by rw[e,hl]at h;cases h)) rfl (fun x r e=>by cases e) rfl ?_)
   simp -implicitDefEqProofs[jJ,-qA,-qB,AQ,St.backH,St.on,Fs,GM,C.same,V.on,U.on,C.on];exact Kr (.inr rfl) rfl rfl rfl rfl rfl
  ·rw[if_neg (fun e=>hw (Bi e))]
   simp -implicitDefEqProofs[jJ,-qA,-qB];refine .inr (Dc k1 rfl (fun x r e=>by cases e) rfl ?_)
   have hb:(y.toList==(Ch w).toList)=false:=beq_eq_false_iff_ne.2 fun e=>hw (Qe e)
   simp -implicitDefEqProofs[jJ,-qA,-qB,AQ,St.backH,St.on,Fs,GM,C.same,V.on,U.on,C.on,G6,hb];refine .inr (Dc k2 rfl (fun x r e=>by cases e) rfl ?_)
   simp -implicitDefEqProofs[jJ,-qA,-qB,AQ,St.backH,St.on,Fs,GM,C.same,V.on,U.on,C.on];exact Kr (.inl rfl) rfl rfl rfl rfl rfl
theorem MK(a b:ByteArray):(a=b∧G6 .eql a b=some (vB true))∨(a≠b∧G6 .eql a b=some (vB false)):=by
 by_cases h:a=b
 ·subst h;exact .inl ⟨rfl,Gw a⟩
 ·exact .inr ⟨h,IY h⟩
theorem Ps.word_of{s:Ps}:(s.word=none∧s.nx=none)∨(∃y,s.nx=some y∧s.word=none∧(y=Ch [40]∨y=Ch [41]∨y=Ch [44]))∨(∃y,s.nx=some y∧s.word=some y∧y≠Ch [40]∧y≠Ch [41]∧y≠Ch [44]):=by
 unfold Ps.word;cases hn:s.nx with
 |none=>exact .inl ⟨rfl,rfl⟩
 |some y=>
  have e: ∀k:List UInt8,B y=k↔y=Ch k:=fun k=>⟨fun h=>T9 h,fun h=>by rw[h];rfl⟩
  simp only[Option.bind_some,signs,List.contains_eq_mem,jzn,E8,or_false,decide_eq_true_eq,e];by_cases h:y=Ch [40]∨y=Ch [41]∨y=Ch [44]
  ·rw[if_pos h]
   exact .inr (.inl ⟨y,rfl,rfl,h⟩)
  ·rw[if_neg h]
   simp only[not_or]at h;exact .inr (.inr ⟨y,rfl,rfl,h.1,h.2.1,h.2.2⟩)
theorem Ps.word_some{s:Ps}{w:ByteArray}(h:s.word=some w):s.r=0∧ ∃l,s.l=w::l:=by
 rcases Ps.word_of (s:=s)with⟨h1,_⟩|⟨y,_,h1,_⟩|⟨y,h1,h2,_⟩
 ·rw[h]at h1;cases h1
 ·rw[h]at h1;cases h1
 ·rw[h]at h2
  cases h2;exact Ps.nx_some h1
def Ps.wordS(s:Ps):Ps:=if s.word.isSome=true then s else s.fail 5
theorem X4(ns:List ByteArray)(s:Ps):PC 254 [] ns s s.wordS (L7 s.word):=by
 have k1:=UC ns s;have k2:=P3 ns s 5;have q1:Ch [40]={ data:= #[40] }:=rfl;have q2:Ch [41]={ data:= #[41] }:=rfl;have q3:Ch [44]={ data:= #[44] }:=rfl;unfold PC Ps.wordS;refine Z3 [] (T:=tb) Ak mixed Tryz.func254 rfl (by decide) (Al rfl) (Al rfl) rfl rfl (H9 _ _) (H9 _ _) ?_;unfold St.initG St.initH
 unfold AQ L7 at*;rcases Ps.word_of (s:=s)with⟨h1,hn⟩|⟨y,hn,h1,hy⟩|⟨y,hn,h1,h3,h4,h5⟩
 ·rw[hn]at k1
  rw[h1]
  simp -implicitDefEqProofs[jJ,-qA,-qB];refine .inr (Dc k1 rfl (fun x r e=>by cases e) rfl ?_)
  simp -implicitDefEqProofs[jJ,-qA,-qB,AQ,St.backH,St.on,Fs,GM,C.same,V.on,U.on,C.on];refine .inr (Dc k2 rfl (fun x r e=>by cases e) rfl ?_)
  simp -implicitDefEqProofs[jJ,-qA,-qB,AQ,St.backH,St.on,Fs,GM,C.same,V.on,U.on,C.on];exact Kr (.inl rfl) rfl rfl rfl rfl rfl
 ·rw[hn]at k1
  rw[h1]
  rw[q1,q2,q3]at hy
  simp -implicitDefEqProofs[jJ,-qA,-qB];refine .inr (Dc k1 rfl (fun x r e=>by cases e) rfl ?_)
  obtain⟨b1,b2,b3,e1,e2,e3,hb⟩: ∃b1 b2 b3:Bool,G6 .eql y { data:= #[40] }=some (vB b1)∧G6 .eql y { data:= #[41] }=some (vB b2)∧G6 .eql y { data:= #[44] }=some (vB b3)∧(b1||b2||b3)=true:=by
   refine⟨_,_,_,rfl,rfl,rfl,?_⟩
   rcases hy with rfl|rfl|rfl<;>simp
  simp -implicitDefEqProofs[jJ,-qA,-qB,AQ,St.backH,St.on,Fs,GM,C.same,V.on,U.on,C.on,e1,e2,e3];cases b1<;>cases b2<;>cases b3<;>first|cases hb|skip
  all_goals
   simp -implicitDefEqProofs[jJ,-qA,-qB,e1,e2,e3];refine .inr (Dc k2 rfl (fun x r e=>by cases e) rfl ?_)
   simp -implicitDefEqProofs[jJ,-qA,-qB,AQ,St.backH,St.on,Fs,GM,C.same,V.on,U.on,C.on];exact Kr (.inl rfl) rfl rfl rfl rfl rfl
 ·rw[hn]at k1
  rw[h1]
  rw[q1]at h3
  rw[q2]at h4
  rw[q3]at h5
  have e1:=IY h3;have e2:=IY h4;have e3:=IY h5;simp -implicitDefEqProofs[jJ,-qA,-qB];refine .inr (Dc k1 rfl (fun x r e=>by cases e) rfl ?_)
  simp -implicitDefEqProofs[jJ,-qA,-qB,AQ,St.backH,St.on,Fs,GM,C.same,V.on,U.on,C.on,e1,e2,e3];exact Kr (.inl rfl) rfl rfl rfl rfl rfl
theorem jgW{w:ByteArray}: ∀{ns:List ByteArray} {i:Nat} (h:i<ns.length),F2 w (ns.drop i)=if ns[i]=w then some 0 else (F2 w (ns.drop (i+1))).map (· +1):=fun {ns} {i} h=>by
 rw[BQ h,F2]
theorem jjB(ns:List ByteArray)(hN:ns.length≤60)(s:Ps)(h:s.l.length=s.p.length):PC 176 [] ns s (s.point ns).2 (.u (.c (.d (.int .i64 (s.point ns).1)))):=by
 have k1:=X4 ns s;have k2:=P3 ns s 6;have k3:=UA ns s;unfold PC Ps.point;refine Z3 [] (T:=tb) Ak mixed Tryz.func176 rfl (by decide) (Al rfl) (Al rfl) rfl rfl (H9 _ _) (H9 _ _) ?_;unfold St.initG St.initH
 unfold AQ L7 Ps.wordS at*;cases hw:s.word with
 |none=>
  rw[hw]at k1
  simp -implicitDefEqProofs[jJ,-qA,-qB];refine .inr (Dc k1 rfl (fun x r e=>by cases e) rfl ?_)
  simp -implicitDefEqProofs[jJ,-qA,-qB,AQ,St.backH,St.on,Fs,GM,C.same,V.on,U.on,C.on];exact Kr (.inl rfl) rfl rfl rfl rfl rfl
 |some w=>
  rw[hw]at k1
  obtain⟨h0,l,hl⟩:=Ps.word_some hw
  simp -implicitDefEqProofs[jJ,-qA,-qB];refine .inr (Dc k1 rfl (fun x r e=>by cases e) rfl ?_)
  simp -implicitDefEqProofs[jJ,-qA,-qB,AQ,St.backH,St.on,Fs,GM,C.same,V.on,U.on,C.on];refine AV (fun i:Nat=>⟨[(19,vI .i64 i),(18,vI .i64 ns.length),(17,vC (.d (EC D.str ns))),(3,vC (.d (.str w))),(0,vC (.ptr 20 0))],[(20,Hf s ns),(3000000000000,.gh [.ptr 20 0])]⟩)
   (fun i=>i≤ns.length∧F2 w ns=(F2 w (ns.drop i)).map (· +i)) (fun i=>ns.length - i) 0 (by simp[AW,lk,St.le,vI,vC]) ⟨by omega,by simp⟩ ?_
  rintro i ⟨hi,hx⟩
  by_cases hlt:i<ns.length
  ·have g0:ns[i]? =some ns[i]:=AD hlt
   rw[jgW hlt]at hx
   rcases MK ns[i] w with⟨e,eb⟩|⟨e,eb⟩
   ·rw[if_pos e]at hx
    rw[hx]
    simp -implicitDefEqProofs[jJ,-qA,-qB,hlt,g0,eb];refine .inr (Dc (k3 (by rw[hl];simp) (fun e=>by rw[e,hl]at h;cases h)) rfl (fun x r e=>by cases e) rfl ?_)
    simp -implicitDefEqProofs[jJ,-qA,-qB,AQ,St.backH,St.on,Fs,GM,C.same,V.on,U.on,C.on];exact Kr (.inl rfl) rfl rfl rfl rfl rfl
   ·rw[if_neg e]at hx
    simp -implicitDefEqProofs[jJ,-qA,-qB,hlt,g0,eb];exact⟨by omega,by rw[hx];cases F2 w (ns.drop (i+1))<;>simp<;>omega⟩
  ·rw[DU (by omega)]at hx
   have hx:F2 w ns=none:=hx
   rw[hx]
   simp -implicitDefEqProofs[jJ,-qA,-qB,hlt];refine .inr (Dc k2 rfl (fun x r e=>by cases e) rfl ?_)
   simp -implicitDefEqProofs[jJ,-qA,-qB,AQ,St.backH,St.on,Fs,GM,C.same,V.on,U.on,C.on];exact Kr (.inl rfl) rfl rfl rfl rfl rfl
theorem jmd(n:Int)(h:60≤n∧n≤68):CallsF Tryz.prog 389 [.c (.int .i64 n)] (.u (.c (.d (.int .i64 4)))):=by
 refine cO Tryz.func389 rfl ?_;have h1:decide (n≤24)=false:=by simp;omega
 have h2:decide (n≤43)=false:=by simp;omega
 have h3:decide (n≤51)=false:=by simp;omega
 have h4:decide (10≤n)=true:=by simp;omega
 have h5:decide (40≤n)=true:=by simp;omega
 have h6:decide (50≤n)=true:=by simp;omega
 have h7:decide (60≤n)=true:=by simp;omega
 have h8:decide (n≤68)=true:=by simp;omega
 simp -implicitDefEqProofs[jJ,-qA,-qB,h1,h2,h3,h4,h5,h6,h7,h8]
def UG(n:Nat):List UInt8:=if n=2∨n=3 then [76,76] else if n=1∨n=5 then [80,80,80] else if n=7 then [80,80,80,80,80,80] else if n=8 then [80,80] else [80,80,80,80]
theorem jgo{n:Nat}(h:1≤n∧n≤9):CallsF Tryz.prog 391 [.c (.int .i64 (60+n - 1))] (.tup [.c (.d (.str (Ch (By n)))),.c (.d (.str (Ch (UG n))))]):=by
 obtain rfl|rfl|rfl|rfl|rfl|rfl|rfl|rfl|rfl:n=1∨n=2∨n=3∨n=4∨n=5∨n=6∨n=7∨n=8∨n=9:=by omega
 all_goals
  refine cO Tryz.func391 rfl ?_;simp -implicitDefEqProofs[jJ,-qA,-qB,By,UG,Ch]
theorem jja{n:Nat}(h:1≤n∧n≤9):CallsF Tryz.prog 351 [.c (.int .i64 (60+n - 1))] (.tup [.c (.d (.str (Ch (By n)))),.c (.d (.str (Ch (UG n))))]):=by
 have k1:=jmd (60+n - 1) (by omega)
 have k2:=jgo h;refine cO Tryz.func351 rfl ?_;generalize Ch (By n)=w at*;generalize Ch (UG n)=l at*;generalize (60+n - 1:Int)=m at*;simp -implicitDefEqProofs[jJ,-qA,-qB]
 (first|refine Ac k1 ?_|refine Ae k1 ?_)
 simp -implicitDefEqProofs[jJ,-qA,-qB]
 (first|refine Ac k2 ?_|refine Ae k2 ?_)
 simp -implicitDefEqProofs[jJ,-qA,-qB]
theorem jl8{n:Nat}(h:1≤n∧n≤9):CallsF Tryz.prog 255 [.c (.int .i64 (60+n - 1))] (.u (.c (.d (.str (Ch (By n)))))):=by
 have k:=jja h;refine cO Tryz.func255 rfl ?_;generalize Ch (By n)=w at*;generalize (60+n - 1:Int)=m at*;simp -implicitDefEqProofs[jJ,-qA,-qB]
 (first|refine Ac k ?_|refine Ae k ?_)
 simp -implicitDefEqProofs[jJ,-qA,-qB]
theorem jlD(s:Ps)(x y:Int)(h:x≠0):(s.fail x).fail y=s.fail x:=by
 unfold Ps.fail;by_cases h0:s.r=0
 ·simp[h0,h]
 ·simp[h0]
theorem jlC(w:List UInt8):(Pz w=0∧ ∀k:Nat,1≤k→k≤9→By k≠w)∨ ∃k:Nat,1≤k∧k≤9∧Pz w=k∧By k=w∧ ∀j:Nat,1≤j→j<k→By j≠w:=by
 by_cases h: ∃k:Nat,1≤k∧k≤9∧By k=w
 ·obtain⟨k,h1,h2,rfl⟩:=h
  right
  obtain rfl|rfl|rfl|rfl|rfl|rfl|rfl|rfl|rfl:k=1∨k=2∨k=3∨k=4∨k=5∨k=6∨k=7∨k=8∨k=9:=by omega
  all_goals refine⟨_,h1,h2,by decide,rfl,fun j j1 j2=> ?_⟩
  all_goals
   have:j=1∨j=2∨j=3∨j=4∨j=5∨j=6∨j=7∨j=8:=by omega
   rcases this with rfl|rfl|rfl|rfl|rfl|rfl|rfl|rfl<;>first|omega|decide
 ·left
  have q: ∀k:Nat,1≤k→k≤9→By k≠w:=fun k h1 h2 e=>h ⟨k,h1,h2,e⟩
  refine⟨?_,q⟩
  unfold Pz;have q1:By 1≠w:=q 1 (by omega) (by omega)
  have q2:By 2≠w:=q 2 (by omega) (by omega)
  have q3:By 3≠w:=q 3 (by omega) (by omega)
  have q4:By 4≠w:=q 4 (by omega) (by omega)
  have q5:By 5≠w:=q 5 (by omega) (by omega)
  have q6:By 6≠w:=q 6 (by omega) (by omega)
  have q7:By 7≠w:=q 7 (by omega) (by omega)
  have q8:By 8≠w:=q 8 (by omega) (by omega)
  have q9:By 9≠w:=q 9 (by omega) (by omega)
  rw[if_neg (Ne.symm q1),if_neg (Ne.symm q2),if_neg (Ne.symm q3),if_neg (Ne.symm q4),if_neg (Ne.symm q5),if_neg (Ne.symm q6),if_neg (Ne.symm q7),if_neg (Ne.symm q8),if_neg (Ne.symm q9)]
theorem jhP(ns:List ByteArray)(s:Ps)(h:s.l.length=s.p.length):PC 172 [] ns s s.kind.2 (.u (.c (.d (.int .i64 s.kind.1)))):=by
 have k1:=X4 ns s;have k2:=P3 ns s 5;have k3:=UA ns s;have k4:=P3 ns (s.fail 5) 5;rw[jlD s 5 5 (by decide)]at k4
 unfold PC Ps.kind;refine Z3 [] (T:=tb) Ak mixed Tryz.func172 rfl (by decide) (Al rfl) (Al rfl) rfl rfl (H9 _ _) (H9 _ _) ?_;unfold St.initG St.initH
 unfold AQ L7 Ps.wordS at*;cases hw:s.word with
 |none=>
  rw[hw]at k1
  simp -implicitDefEqProofs[jJ,-qA,-qB];refine .inr (Dc k1 rfl (fun x r e=>by cases e) rfl ?_)
  simp -implicitDefEqProofs[jJ,-qA,-qB,AQ,St.backH,St.on,Fs,GM,C.same,V.on,U.on,C.on];refine AV (fun i:Nat=>⟨[(5,vI .i64 1),(4,vB false),(0,vC (.ptr 20 0))],[(20,Hf (s.fail 5) ns),(3000000000000,.gh [.ptr 20 0])]⟩) (fun _=>True) (fun i=>i) 0 (by simp[AW,lk,St.le,vI,vB,vC]) trivial ?_
  intro i _;simp -implicitDefEqProofs[jJ,-qA,-qB];refine .inr (Dc k4 rfl (fun x r e=>by cases e) rfl ?_)
  simp -implicitDefEqProofs[jJ,-qA,-qB,AQ,St.backH,St.on,Fs,GM,C.same,V.on,U.on,C.on];exact Kr (.inl rfl) rfl rfl rfl rfl rfl
 |some w=>
  rw[hw]at k1
  obtain⟨h0,l,hl⟩:=Ps.word_some hw
  have hp:=jlC (B w);simp -implicitDefEqProofs[jJ,-qA,-qB];refine .inr (Dc k1 rfl (fun x r e=>by cases e) rfl ?_)
  simp -implicitDefEqProofs[jJ,-qA,-qB,AQ,St.backH,St.on,Fs,GM,C.same,V.on,U.on,C.on];refine AV (fun i:Nat=>⟨[(5,vI .i64 i),(4,vB true),(3,vC (.d (.str w))),(0,vC (.ptr 20 0))],[(20,Hf s ns),(3000000000000,.gh [.ptr 20 0])]⟩)
   (fun i=>1≤i∧i≤10∧ ∀j:Nat,1≤j→j<i→By j≠B w) (fun i=>10 - i) 1 (by simp[AW,lk,St.le,vI,vB,vC]) ⟨by omega,by omega,fun j h1 h2=>by omega⟩ ?_
  rintro i ⟨hi0,hi,hx⟩
  by_cases hlt:i≤9
  ·have ka:=jl8 (n:=i) ⟨hi0,hlt⟩;rw[show(60+(i:Int) - 1)=((60+i:Nat):Int) - 1 by omega]at ka
   rcases MK (Ch (By i)) w with⟨e,eb⟩|⟨e,eb⟩
   ·have hk:Pz (B w)=i:=by
     rcases hp with⟨_,q⟩|⟨k,p1,p2,p3,p4,p5⟩
     ·exact absurd (by rw[←e];rfl) (q i hi0 hlt)
     ·have:k=i:=by
       rcases Nat.lt_trichotomy k i with q|q|q
       ·exact absurd p4 (hx k p1 q)
       ·exact q
       ·exact absurd (by rw[←e];rfl) (p5 i hi0 q)
      rw[p3,this]
    rw[hk,if_neg (by omega)]
    rw[e]at ka eb
    simp -implicitDefEqProofs[jJ,-qA,-qB,hlt];refine⟨by omega,⟨by omega,by omega⟩,?_⟩
    (first|refine Ac ka ?_|refine Ae ka ?_)
    simp -implicitDefEqProofs[jJ,-qA,-qB,eb];refine .inr (Dc (k3 (by rw[hl];simp) (fun e=>by rw[e,hl]at h;cases h)) rfl (fun x r e=>by cases e) rfl ?_)
    simp -implicitDefEqProofs[jJ,-qA,-qB,AQ,St.backH,St.on,Fs,GM,C.same,V.on,U.on,C.on];exact Kr (.inl rfl) rfl rfl rfl rfl rfl
   ·have hne:By i≠B w:=fun q=>e (by rw[q];rfl)
    generalize Ch (By i)=W at*;simp -implicitDefEqProofs[jJ,-qA,-qB,hlt];refine⟨by omega,⟨by omega,by omega⟩,?_⟩
    (first|refine Ac ka ?_|refine Ae ka ?_)
    simp -implicitDefEqProofs[jJ,-qA,-qB,eb];exact⟨by omega,⟨by omega,fun j j1 j2=>by
     by_cases q:j=i
     ·rw[q];exact hne
     ·exact hx j j1 (by omega)⟩,by omega⟩
  ·have hk:Pz (B w)=0:=by
    rcases hp with⟨q,_⟩|⟨k,p1,p2,p3,p4,p5⟩
    ·exact q
    ·exact absurd p4 (hx k p1 (by omega))
   rw[hk,if_pos rfl]
   simp -implicitDefEqProofs[jJ,-qA,-qB,hlt];refine .inr (Dc k2 rfl (fun x r e=>by cases e) rfl ?_)
   simp -implicitDefEqProofs[jJ,-qA,-qB,AQ,St.backH,St.on,Fs,GM,C.same,V.on,U.on,C.on];exact Kr (.inl rfl) rfl rfl rfl rfl rfl
theorem jjv(s:ByteArray)(i:Nat):s[i]? =(B s)[i]? :=by
 unfold B;by_cases h:i<s.size
 ·rw[getElem?_pos s i h,AD (by simpa using h)]
  rfl
 ·rw[getElem?_neg s i h,B9 (by simpa using h)]
theorem SV(s:ByteArray){i:Nat}(h:i<s.size):s[i]=(B s)[i]'(by rw[Hg];exact h):=rfl
theorem jdt{l:List UInt8}{i:Nat}(h:i<l.length):valB (l.take (i+1))=valB (l.take i)*10+(l[i].toNat - 48):=by
 unfold valB;rw[Cr h,List.foldl_append];rfl
theorem jgl(p c x:Nat):p*((c+10*x)%65536)+p*65536*((c+10*x)/65536)=p*c+10*(p*x):=by
 have h:=Nat.div_add_mod (c+10*x) 65536;have e:p*(c+10*x)=p*c+10*(p*x):=by rw[Nat.mul_add,Nat.mul_left_comm]
 rw[←e,Nat.mul_assoc,←Nat.mul_add,Nat.add_comm,h]
theorem Xn(s:ByteArray):CallsF Tryz.prog 353 [.c (.str s)] (.tup [.c (.d (Ad (limbs (natR (B s)).1))),.c (.d (.int .i64 (natR (B s)).2))]):=by
 have hsz:(B s).length=s.size:=Hg s
 unfold natR;refine cO Tryz.func353 rfl ?_;rcases MK s { data:= #[] } with⟨e,eb⟩|⟨e,eb⟩
 ·rw[if_pos (by rw[e];rfl)]
  simp -implicitDefEqProofs[jJ,-qA,-qB,-qC,-qD,-qE,-List.map_set,eb];rfl
 have h0:B s≠[]:=fun q=>e (by rw[←O9 s,q];rfl)
 rw[if_neg h0]
 have hpos:0<s.size:=by rw[←hsz];exact List.length_pos_iff.2 h0
 by_cases h1:1000<s.size
 ·rw[if_pos (by omega)]
  simp -implicitDefEqProofs[jJ,-qA,-qB,-qC,-qD,-qE,-List.map_set,eb,h1];rfl
 rw[if_neg (by omega)]
 have g0:(B s)[0]? =some (B s)[0]:=AD (by omega)
 have gs:s[0]? =some (B s)[0]:=by rw[jjv,g0]
 have hh:(B s).head? =some (B s)[0]:=by rw[List.head?_eq_getElem?,g0]
 have h48:(B s)[0]=48↔(B s)[0].toNat=48:=⟨fun h=>by rw[h];rfl,fun h=>UInt8.toNat_inj.1 h⟩
 rw[hh,hsz]
 simp only[Option.some.injEq,h48];clear hh h48 g0 h0 e;by_cases hz:1<s.size∧(B s)[0].toNat=48
 ·rw[if_pos hz]
  simp -implicitDefEqProofs[jJ,-qA,-qB,-qC,-qD,-qE,-List.map_set,eb,h1,gs,hz.1,hz.2];exact⟨hpos,rfl⟩
 rw[if_neg hz]
 have hcase:(1<s.size∧ ¬(B s)[0].toNat=48)∨ ¬1<s.size:=by
  by_cases c:1<s.size
  ·exact .inl ⟨c,fun q=>hz ⟨c,q⟩⟩
  ·exact .inr c
 generalize hF:(if (B s).all KI=true then (valB (B s),(0:Int)) else (0,9))=F;rcases hcase with⟨c1,c2⟩|c1
 case' inl=>
  simp -implicitDefEqProofs[jJ,-qA,-qB,-qC,-qD,-qE,-List.map_set,eb,h1,gs,c1,c2];refine⟨hpos,?_⟩
 case' inr=>simp -implicitDefEqProofs[jJ,-qA,-qB,-qC,-qD,-qE,-List.map_set,eb,h1,gs,c1]
 all_goals
  refine CE [(4,71)] (fun z:Nat×List Nat=>⟨[(26,vI .i64 z.1),(25,vI .i64 s.size),(4,vC (.sl 4 0 z.2.length)),(0,vC (.d (.str s)))],[(4,.row 1 (z.2.map u16) true)]⟩)
   (fun z=>z.1≤s.size∧z.2=limbs (valB ((B s).take z.1))∧((B s).take z.1).all KI=true∧z.2.length≤z.1) (fun z=>s.size - z.1) (0,[]) (by simp[AW,lk,St.le,vI,vC]) ⟨by omega,by simp[valB,Cm],by simp,by simp⟩ ?_
  rintro⟨i,x⟩ ⟨z1,z2,z3,z4⟩
  simp only at z1 z2 z3 z4;by_cases hi:i<s.size
  ·have hi':i<(B s).length:=by omega
   have gi:=SV s hi;have hv:=jdt hi';have ht:((B s).take (i+1)).all KI=(((B s).take i).all KI&&KI (B s)[i]):=by
    rw[Cr hi',List.all_append]
    simp
   by_cases hd:KI (B s)[i]=true
   ·have hd':=hd;unfold KI at hd';simp only[AR,decide_eq_true_eq]at hd';generalize (B s)[i]=b at*;have dn: ¬57<b.toNat:=by omega
    have dm: ¬b.toNat<48:=by omega
    have hw:IntKind.u32.wrap (((b.toNat:Int) - 48)%256)=((b.toNat - 48:Nat):Int):=by
     rw[show((b.toNat:Int) - 48)%256=((b.toNat - 48:Nat):Int) by omega]
     simp only[IntKind.wrap,IntKind.signed,IntKind.bits];simp;omega
    simp -implicitDefEqProofs[jJ,-qA,-qB,-qC,-qD,-qE,-List.map_set,hi,gi,hd'.1,hd'.2,dn,dm,hw];refine AV (fun y:Nat×Nat×List Nat=>⟨[(46,vI .i64 y.1),(45,vI .i64 x.length),(6,vI .u32 y.2.1),(26,vI .i64 i),(25,vI .i64 s.size),(4,vC (.sl 4 0 x.length)),(0,vC (.d (.str s)))],[(4,.row 1 (y.2.2.map u16) true)]⟩)
     (fun y=>y.1≤x.length∧y.2.1≤9∧Ok y.2.2∧y.2.2.length=x.length∧y.2.2.drop y.1=x.drop y.1∧val (y.2.2.take y.1)+65536^y.1*y.2.1=10*val (x.take y.1)+(b.toNat - 48)) (fun y=>x.length - y.1) (0,b.toNat - 48,x)
     (by simp[AW,lk,St.le,vI,vC]) ⟨by simp,by show b.toNat - 48≤9;omega,by rw[z2];exact Aw _,rfl,rfl,by simp[val]⟩ ?_
    have ox:Ok x:=by rw[z2];exact Aw _
    rintro⟨k,c,o⟩ ⟨y1,y2,y3,y4,y5,y6⟩
    simp only at y1 y2 y3 y4 y5 y6;by_cases hk:k<x.length
    ·have hko:k<o.length:=by omega
     have hxo:o[k]=x[k]:=by
      have:=congrArg (·[0]?) y5
      simpa [List.getElem?_drop,AD hk,AD hko]using this
     have hxk:=ox.get (AD hk);have ex:=Dp hk;rw[AL,AD hk,Option.getD_some]at ex;have es:(c+10*x[k])%4294967296=c+10*x[k]:=by omega
     simp -implicitDefEqProofs[jJ,-qA,-qB,-qC,-qD,-qE,-List.map_set,hk,hko,hxo,u16];refine⟨by omega,by omega,k+1,(c+10*x[k])/65536,o.set k ((c+10*x[k])%65536),⟨⟨rfl,by rw[es]⟩,rfl⟩,⟨by omega,by omega,y3.set _ (by omega),by simpa using y4,?_,?_⟩,by omega⟩
     ·rw[List.drop_set_of_lt (by omega),←List.drop_drop,y5,List.drop_drop]
     ·have hA:=jgl (65536^k) c x[k];rw[jma hko,ex,Nat.pow_succ];omega
    ·have hk2:k=x.length:=by omega
     subst hk2;rw[Ba (by omega),BM,z2,Az,←z2]at y6
     generalize valB (List.take i (B s))=m at*;have hq:x=[]∨65536^(x.length - 1)≤m:=by
      by_cases h:x=[]
      ·exact .inl h
      ·have:=List.length_pos_iff.2 h
       rw[z2]at this ⊢
       exact .inr (jkW (by omega))
     have hall: ∀y∈List.take (i+1) (B s),KI y=true:=jzy.1 (by rw[ht,z3,hd];rfl)
     by_cases hc:0<c
     ·have hs:o++[c]=limbs (valB (List.take (i+1) (B s))):=by
       have e1:val (o++[c])=10*m+(b.toNat - 48):=by rw[Ks,y4];omega
       have e2:65536^x.length*1≤65536^x.length*c:=Nat.mul_le_mul_left _ hc;have:=jd6 (o:=o++[c]) (y3.app (Ok.nil.cons (by omega))) (.inr (by rw[List.length_append,List.length_singleton,Nat.add_sub_cancel,e1,y4];omega))
       rw[e1]at this
       rw[this,hv,Nat.mul_comm]
      have hc6:c%65536=c:=by omega
      simp -implicitDefEqProofs[jJ,-qA,-qB,-qC,-qD,-qE,-List.map_set,hk,hc,y4,u16];exact⟨⟨by omega,by omega⟩,by omega,i+1,o++[c],⟨⟨rfl,by rw[List.length_append,y4];rfl⟩,by rw[List.map_append,hc6];rfl⟩,⟨by omega,hs,hall,by rw[List.length_append,y4];simp;omega⟩,by omega⟩
     ·have hc0:c=0:=by omega
      subst hc0;have hs:o=limbs (valB (List.take (i+1) (B s))):=by
       have e1:val o=10*m+(b.toNat - 48):=by omega
       have:=jd6 y3 (by
        rcases hq with rfl|hq
        ·exact .inl (jzv.1 y4)
        ·exact .inr (by rw[y4,e1];omega))
       rw[e1]at this
       rw[this,hv,Nat.mul_comm]
      simp -implicitDefEqProofs[jJ,-qA,-qB,-qC,-qD,-qE,-List.map_set,hk,y4,u16];exact⟨by omega,i+1,o,⟨⟨rfl,y4.symm⟩,rfl⟩,⟨by omega,hs,hall,by omega⟩,by omega⟩
   ·have hF0:F=(0,9):=by
     rw[←hF,if_neg]
     intro q;exact hd (jzy.1 q _ (AZ hi'))
    subst hF0;have hd':(B s)[i].toNat<48∨ ¬(B s)[i].toNat<48∧57<(B s)[i].toNat:=by
     unfold KI at hd;simp only[AR,decide_eq_true_eq]at hd;omega
    generalize (B s)[i]=b at*;rcases hd' with q|⟨q,q2⟩
    ·simp -implicitDefEqProofs[jJ,-qA,-qB,-qC,-qD,-qE,-List.map_set,hi,gi,q];rfl
    ·simp -implicitDefEqProofs[jJ,-qA,-qB,-qC,-qD,-qE,-List.map_set,hi,gi,q,q2];rfl
  ·have hi2:i=s.size:=by omega
   subst hi2;have hF0:F=(valB (B s),0):=by
    rw[←hF,if_pos]
    rwa [←hsz,BM]at z3
   subst hF0;rw[←hsz,BM]at z2;simp -implicitDefEqProofs[jJ,-qA,-qB,-qC,-qD,-qE,-List.map_set,hi];rw[z2]
end Go.Va
