/- a part of the proof -/
import Derived.Test.YtfmhdeggclefdaaGreatDoorKay
import Derived.Test.YtfmhdeggclefdaaGreatDoorKaz
set_option linter.all false
set_option maxHeartbeats 4000000
set_option maxRecDepth 10000
namespace Go.Va
open Int renaming natCast_add → qA, natCast_mul → qB, natCast_emod → qC, natCast_ediv → qD, natCast_pow → qE
open List renaming reduceReplicate → qF
open Go.Proofs
def Hf(s:Ps)(ns:List ByteArray):Blk:= .box [.d (.slice s.l.length (strsD s.l)),.d (AT s.p),.d (A6 ns),.d (.int .i64 s.e),.d (.int .i64 s.a),.d (.int .i64 s.r)]
def AQ(s:Ps)(ns:List ByteArray):List (Nat×Blk):=[(20,Hf s ns)]
@[simp]theorem jnc(s:Ps)(ns:List ByteArray):(Hf s ns).ld 2=some (.c (.d (A6 ns))):=rfl
@[simp]theorem jm9(s:Ps)(ns:List ByteArray):(Hf s ns).ld 5=some (.c (.d (.int .i64 s.r))):=rfl
@[simp]theorem jna(s:Ps)(ns:List ByteArray):(Hf s ns).ld 4=some (.c (.d (.int .i64 s.a))):=rfl
theorem H9(s:Ps)(ns:List ByteArray): ∀i cs,lk i (AQ s ns)≠some (.gh cs):=fun i cs h=>by
 simp only[AQ,lk,Hf]at h;split at h<;>cases h
def PC(f:FuncId)(us:List U)(ns:List ByteArray)(s s':Ps)(v:V):Prop:=GJ Tryz.prog f (.c (.ptr 20 0)::us) [.ptr 20 0] [.ptr 20 0] (AQ s ns) (AQ s' ns) v
@[simp]theorem jnd(k:Nat):KE k []=[]:=rfl
@[simp]theorem jne(k:Nat)(u:U)(r:List U):KE k (u::r)=(k,.u u)::KE (k+1) r:=rfl
@[simp]theorem GID_val:Cv=3000000000000:=rfl
theorem Kr{rs:List ResultVar}{b:Blk}{v:V}{e:Exit}{t:List (Nat×V)}{h:List (Nat×Blk)}(he:e= .ret∨e= .normal)(hg:lk Cv h=some (.gh [.ptr 20 0]))(hb:lk 20 h=some b)(hB:b.on (B1 [20])=b)
  (hr:St.res tb ⟨t,h⟩ rs=some v) (hv:v.on (B1 [20])=v):Lc tb rs [.ptr 20 0] [(20,b)] v e ⟨t,h⟩:=by
 refine⟨he,[],none,[.ptr 20 0],hg,rfl,.inr ⟨v,hr,hv.symm⟩,?_,trivial⟩
 show lk 20 ((⟨t,h⟩:St).clean [20]).h=some _
 unfold St.clean St.on;simp only;rw[FZ,if_neg (by decide),BN,hb]
 exact congrArg some hB
theorem TZ{rs:List ResultVar}{b0 b:Blk}{v:V}{e:Exit}{t:List (Nat×V)}{h:List (Nat×Blk)}(he:e= .ret∨e= .normal)(hg:lk Cv h=some (.gh [.ptr 20 0]))(hb:lk 20 h=some b0)(hB:b0.dat.on (B1 [20])=b)
  (hr:St.res tb ⟨t,h.map fun e=>(e.1,e.2.dat)⟩ rs=some v) (hv:v.on (B1 [20])=v):Lc tb rs [.ptr 20 0] [(20,b)] v e ⟨t,h⟩:=by
 have e0:(rns [] (⟨t,h⟩:St)).fin (some [])=⟨t,h.map fun e=>(e.1,e.2.dat)⟩:=rfl
 refine⟨he,[],some [],[.ptr 20 0],?_,rfl,?_⟩
 ·rw[e0]
  show lk Cv (h.map fun e=>(e.1,e.2.dat))=_
  rw[BN,hg]
  rfl
 ·rw[e0]
  refine⟨.inr ⟨v,hr,hv.symm⟩,?_,trivial⟩
  show lk 20 ((⟨t,h.map fun e=>(e.1,e.2.dat)⟩:St).clean [20]).h=some _
  unfold St.clean St.on;simp only;rw[FZ,if_neg (by decide),BN,BN,hb]
  exact congrArg some hB
theorem P3(ns:List ByteArray)(s:Ps)(x:Int):PC 179 [.c (.d (.int .i64 x))] ns s (s.fail x) (.tup []):=by
 unfold PC;refine Z3 [] (T:=tb) Ak mixed Tryz.func179 rfl (by decide) (Al rfl) (Al rfl) rfl rfl (H9 _ _) (H9 _ _) ?_;unfold St.initG St.initH
 generalize hs:s.fail x=s';obtain⟨l,p,e,a,r⟩:=s;unfold AQ Hf;unfold Ps.fail at hs;by_cases h:r=0
 ·subst h;simp only[if_true]at hs;cases p with
  |nil=>
   subst hs;simp -implicitDefEqProofs[jJ,-qA,-qB];exact Kr (.inr rfl) rfl rfl rfl rfl rfl
  |cons y p=>
   subst hs;simp -implicitDefEqProofs[jJ,-qA,-qB,i64];exact Kr (.inr rfl) rfl rfl rfl rfl rfl
 ·simp only[if_neg h]at hs;subst hs;simp -implicitDefEqProofs[jJ,-qA,-qB,h];exact Kr (.inl rfl) rfl rfl rfl rfl rfl
theorem Dc{f:FuncId}{us us':List U}{ns:List ByteArray}{s s':Ps}{v:V}{dst:Option Nat}{st:St}{K:St→Prop}(h:PC f us' ns s s' v)(hu:us.map (U.on (B1 [20]))= .c (.ptr 20 0)::us')(hv: ∀x r,v≠ .tr x r)(hb:lk 20 st.h=some (Hf s ns))
  (k:K (st.backH dst [20] [] [.ptr 20 0] [.ptr 20 0] (AQ s' ns) v)):Kl Tryz.prog dst st K f [] us:=
 .inr (.inr (.inr (.inl (.inr (.inr (.inr (.inr (.inr ⟨rfl,[.ptr 20 0],[.ptr 20 0],AQ s ns,AQ s' ns,v,[20],[],by rw[hu];exact h,hv,
  ⟨fun i b hi=>by simp only[AQ,lk]at hi;split at hi<;>cases hi;rename_i e;exact⟨by simp[e],_,e ▸ hb,rfl⟩,fun i hi=>by rw[List.mem_singleton.1 hi];rfl,fun i b hi=>by simp only[AQ,lk]at hi;split at hi<;>cases hi;rename_i e;exact .inl (by simp[e])⟩,k⟩))))))))
def L7(o:Option ByteArray):V:= .tup [.c (.d (.str (o.getD ⟨#[]⟩))),.c (.d (.bool o.isSome))]
theorem UC(ns:List ByteArray)(s:Ps):PC 176 [] ns s s (L7 s.nx):=by
 unfold PC;refine Z3 [] (T:=tb) Ak mixed Tryz.func176 rfl (by decide) (Al rfl) (Al rfl) rfl rfl (H9 _ _) (H9 _ _) ?_;unfold St.initG St.initH
 obtain⟨l,p,e,a,r⟩:=s
 unfold AQ Hf Ps.nx L7;simp only;by_cases h:r=0
 ·subst h;cases l with
  |nil=>
   simp -implicitDefEqProofs[jJ,-qA,-qB];exact Kr (.inl rfl) rfl rfl rfl rfl rfl
  |cons y l=>
   simp -implicitDefEqProofs[jJ,-qA,-qB,strsD];exact Kr (.inl rfl) rfl rfl rfl rfl rfl
 ·simp -implicitDefEqProofs[jJ,-qA,-qB,h];exact Kr (.inl rfl) rfl rfl rfl rfl rfl
theorem UA(ns:List ByteArray)(s:Ps)(hl:s.l≠[])(hp:s.p≠[]):PC 254 [] ns s s.pass (.tup []):=by
 unfold PC;refine Z3 [] (T:=tb) Ak mixed Tryz.func254 rfl (by decide) (Al rfl) (Al rfl) rfl rfl (H9 _ _) (H9 _ _) ?_;unfold St.initG St.initH
 obtain⟨l,p,e,a,r⟩:=s
 unfold AQ Hf Ps.pass;cases l with
 |nil=>exact absurd rfl hl
 |cons x l=>
  cases p with
  |nil=>exact absurd rfl hp
  |cons y p=>
   refine AA (Ah [0,0,0,4,12,28,60,0,128,384,896,1920,2045,6141,14333,32767,65535,131071]) [.any [] [] [⟨0,[0],[],[],[]⟩,⟨0,[0],[20],[],[]⟩,⟨0,[0],[],[],[]⟩,⟨0,[4],[],[],[]⟩,⟨0,[5],[],[],[]⟩,⟨0,[6],[],[],[]⟩,⟨0,[7],[],[],[]⟩,⟨0,[0],[],[],[]⟩,⟨0,[9],[],[],[]⟩,⟨0,[10],[],[],[]⟩,⟨0,[11],[],[],[]⟩,⟨0,[12],[20],[],[]⟩,⟨0,[2],[],[],[]⟩,⟨0,[14],[],[],[]⟩,⟨2,[8,15],[],[],[20]⟩],.one,.one,.one] (by rfl) ?_
   simp -implicitDefEqProofs[jJ,-qA,-qB,strsD];exact Kr (.inr rfl) rfl rfl rfl rfl rfl
theorem Ps.nx_some{s:Ps}{w:ByteArray}(h:s.nx=some w):s.r=0∧ ∃l,s.l=w::l:=by
 unfold Ps.nx at h;split at h
 ·rename_i h0
  cases hl:s.l with
  |nil=>rw[hl]at h;cases h
  |cons x l=>rw[hl]at h;cases h;exact⟨h0,l,rfl⟩
 ·cases h
theorem TL(ns:List ByteArray)(s:Ps)(w:List UInt8)(h:s.l.length=s.p.length):PC 174 [.c (.d (.str (Ch w)))] ns s (s.must w) (.tup []):=by
 have k1:=UC ns s;have k2:=P3 ns s 5;have k3:=UA ns s;unfold PC Ps.must;refine Z3 [] (T:=tb) Ak mixed Tryz.func174 rfl (by decide) (Al rfl) (Al rfl) rfl rfl (H9 _ _) (H9 _ _) ?_;unfold St.initG St.initH
 unfold AQ L7 at*;cases hn:s.nx with
 |none=>
  rw[hn]at k1
  simp -implicitDefEqProofs[jJ,-qA,-qB];refine .inr (Dc k1 rfl (fun x r e=>by cases e) rfl ?_)
  simp -implicitDefEqProofs[jJ,-qA,-qB,AQ,St.backH,St.on,Fs,GM,C.same,V.on,U.on,C.on];refine .inr (Dc k2 rfl (fun x r e=>by cases e) rfl ?_)
  simp -implicitDefEqProofs[jJ,-qA,-qB,AQ,St.backH,St.on,Fs,GM,C.same,V.on,U.on,C.on];exact Kr (.inl rfl) rfl rfl rfl rfl rfl
 |some y=>
  rw[hn]at k1
  obtain⟨h0,l,hl⟩:=Ps.nx_some hn
  by_cases hw:y=Ch w
  ·subst hw;rw[if_pos rfl];simp -implicitDefEqProofs[jJ,-qA,-qB];refine .inr (Dc k1 rfl (fun x r e=>by cases e) rfl ?_)
   simp -implicitDefEqProofs[jJ,-qA,-qB,AQ,St.backH,St.on,Fs,GM,C.same,V.on,U.on,C.on,Gw,G6];refine .inr (Dc (k3 (by rw[hl];simp) (fun e=>by rw[e,hl]at h;cases h)) rfl (fun x r e=>by cases e) rfl ?_)
   simp -implicitDefEqProofs[jJ,-qA,-qB,AQ,St.backH,St.on,Fs,GM,C.same,V.on,U.on,C.on];exact Kr (.inr rfl) rfl rfl rfl rfl rfl
  ·rw[if_neg (fun e=>hw (Bi e))]
   simp -implicitDefEqProofs[jJ,-qA,-qB];refine .inr (Dc k1 rfl (fun x r e=>by cases e) rfl ?_)
   have hb:(y.toList==(Ch w).toList)=false:=beq_eq_false_iff_ne.2 fun e=>hw (Qe e)
   simp -implicitDefEqProofs[jJ,-qA,-qB,AQ,St.backH,St.on,Fs,GM,C.same,V.on,U.on,C.on,G6,hb];refine .inr (Dc k2 rfl (fun x r e=>by cases e) rfl ?_)
   simp -implicitDefEqProofs[jJ,-qA,-qB,AQ,St.backH,St.on,Fs,GM,C.same,V.on,U.on,C.on];exact Kr (.inl rfl) rfl rfl rfl rfl rfl
theorem MK(a b:ByteArray):(a=b∧G6 .eql a b=some (vB true))∨(a≠b∧G6 .eql a b=some (vB false)):=by
 by_cases h:a=b
 ·subst h;exact .inl ⟨rfl,Gw a⟩
 ·exact .inr ⟨h,IY h⟩
theorem Ps.word_of{s:Ps}:(s.word=none∧s.nx=none)∨(∃y,s.nx=some y∧s.word=none∧(y=Ch [40]∨y=Ch [41]∨y=Ch [44]))∨(∃y,s.nx=some y∧s.word=some y∧y≠Ch [40]∧y≠Ch [41]∧y≠Ch [44]):=by
 unfold Ps.word;cases hn:s.nx with
 |none=>exact .inl ⟨rfl,rfl⟩
 |some y=>
  have e: ∀k:List UInt8,B y=k↔y=Ch k:=fun k=>⟨fun h=>T9 h,fun h=>by rw[h];rfl⟩
  simp only[Option.bind_some,signs,List.contains_eq_mem,jzn,E8,or_false,decide_eq_true_eq,e];by_cases h:y=Ch [40]∨y=Ch [41]∨y=Ch [44]
  ·rw[if_pos h]
   exact .inr (.inl ⟨y,rfl,rfl,h⟩)
  ·rw[if_neg h]
   simp only[not_or]at h;exact .inr (.inr ⟨y,rfl,rfl,h.1,h.2.1,h.2.2⟩)
theorem Ps.word_some{s:Ps}{w:ByteArray}(h:s.word=some w):s.r=0∧ ∃l,s.l=w::l:=by
 rcases Ps.word_of (s:=s)with⟨h1,_⟩|⟨y,_,h1,_⟩|⟨y,h1,h2,_⟩
 ·rw[h]at h1;cases h1
 ·rw[h]at h1;cases h1
 ·rw[h]at h2
  cases h2;exact Ps.nx_some h1
def Ps.wordS(s:Ps):Ps:=if s.word.isSome=true then s else s.fail 5
theorem X4(ns:List ByteArray)(s:Ps):PC 252 [] ns s s.wordS (L7 s.word):=by
 have k1:=UC ns s;have k2:=P3 ns s 5;have q1:Ch [40]={ data:= #[40] }:=rfl;have q2:Ch [41]={ data:= #[41] }:=rfl;have q3:Ch [44]={ data:= #[44] }:=rfl;unfold PC Ps.wordS;refine Z3 [] (T:=tb) Ak mixed Tryz.func252 rfl (by decide) (Al rfl) (Al rfl) rfl rfl (H9 _ _) (H9 _ _) ?_;unfold St.initG St.initH
 unfold AQ L7 at*;rcases Ps.word_of (s:=s)with⟨h1,hn⟩|⟨y,hn,h1,hy⟩|⟨y,hn,h1,h3,h4,h5⟩
 ·rw[hn]at k1
  rw[h1]
  simp -implicitDefEqProofs[jJ,-qA,-qB];refine .inr (Dc k1 rfl (fun x r e=>by cases e) rfl ?_)
  simp -implicitDefEqProofs[jJ,-qA,-qB,AQ,St.backH,St.on,Fs,GM,C.same,V.on,U.on,C.on];refine .inr (Dc k2 rfl (fun x r e=>by cases e) rfl ?_)
  simp -implicitDefEqProofs[jJ,-qA,-qB,AQ,St.backH,St.on,Fs,GM,C.same,V.on,U.on,C.on];exact Kr (.inl rfl) rfl rfl rfl rfl rfl
 ·rw[hn]at k1
  rw[h1]
  rw[q1,q2,q3]at hy
  simp -implicitDefEqProofs[jJ,-qA,-qB];refine .inr (Dc k1 rfl (fun x r e=>by cases e) rfl ?_)
  obtain⟨b1,b2,b3,e1,e2,e3,hb⟩: ∃b1 b2 b3:Bool,G6 .eql y { data:= #[40] }=some (vB b1)∧G6 .eql y { data:= #[41] }=some (vB b2)∧G6 .eql y { data:= #[44] }=some (vB b3)∧(b1||b2||b3)=true:=by
   refine⟨_,_,_,rfl,rfl,rfl,?_⟩
   rcases hy with rfl|rfl|rfl<;>simp
  simp -implicitDefEqProofs[jJ,-qA,-qB,AQ,St.backH,St.on,Fs,GM,C.same,V.on,U.on,C.on,e1,e2,e3];cases b1<;>cases b2<;>cases b3<;>first|cases hb|skip
  all_goals
   simp -implicitDefEqProofs[jJ,-qA,-qB,e1,e2,e3];refine .inr (Dc k2 rfl (fun x r e=>by cases e) rfl ?_)
   simp -implicitDefEqProofs[jJ,-qA,-qB,AQ,St.backH,St.on,Fs,GM,C.same,V.on,U.on,C.on];exact Kr (.inl rfl) rfl rfl rfl rfl rfl
 ·rw[hn]at k1
  rw[h1]
  rw[q1]at h3
  rw[q2]at h4
  rw[q3]at h5
  have e1:=IY h3;have e2:=IY h4;have e3:=IY h5;simp -implicitDefEqProofs[jJ,-qA,-qB];refine .inr (Dc k1 rfl (fun x r e=>by cases e) rfl ?_)
  simp -implicitDefEqProofs[jJ,-qA,-qB,AQ,St.backH,St.on,Fs,GM,C.same,V.on,U.on,C.on,e1,e2,e3];exact Kr (.inl rfl) rfl rfl rfl rfl rfl
theorem jgW{w:ByteArray}: ∀{ns:List ByteArray} {i:Nat} (h:i<ns.length),F2 w (ns.drop i)=if ns[i]=w then some 0 else (F2 w (ns.drop (i+1))).map (· +1):=fun {ns} {i} h=>by
 rw[BQ h,F2]
theorem jjB(ns:List ByteArray)(hN:ns.length≤60)(s:Ps)(h:s.l.length=s.p.length):PC 177 [] ns s (s.point ns).2 (.u (.c (.d (.int .i64 (s.point ns).1)))):=by
 have k1:=X4 ns s;have k2:=P3 ns s 6;have k3:=UA ns s;unfold PC Ps.point;refine Z3 [] (T:=tb) Ak mixed Tryz.func177 rfl (by decide) (Al rfl) (Al rfl) rfl rfl (H9 _ _) (H9 _ _) ?_;unfold St.initG St.initH
 unfold AQ L7 Ps.wordS at*;cases hw:s.word with
 |none=>
  rw[hw]at k1
  simp -implicitDefEqProofs[jJ,-qA,-qB];refine .inr (Dc k1 rfl (fun x r e=>by cases e) rfl ?_)
  simp -implicitDefEqProofs[jJ,-qA,-qB,AQ,St.backH,St.on,Fs,GM,C.same,V.on,U.on,C.on];exact Kr (.inl rfl) rfl rfl rfl rfl rfl
 |some w=>
  rw[hw]at k1
  obtain⟨h0,l,hl⟩:=Ps.word_some hw
  simp -implicitDefEqProofs[jJ,-qA,-qB];refine .inr (Dc k1 rfl (fun x r e=>by cases e) rfl ?_)
  simp -implicitDefEqProofs[jJ,-qA,-qB,AQ,St.backH,St.on,Fs,GM,C.same,V.on,U.on,C.on];refine AV (fun i:Nat=>⟨[(19,vI .i64 i),(18,vI .i64 ns.length),(17,vC (.d (EC D.str ns))),(3,vC (.d (.str w))),(0,vC (.ptr 20 0))],[(20,Hf s ns),(3000000000000,.gh [.ptr 20 0])]⟩)
   (fun i=>i≤ns.length∧F2 w ns=(F2 w (ns.drop i)).map (· +i)) (fun i=>ns.length - i) 0 (by simp[AW,lk,St.le,vI,vC]) ⟨by omega,by simp⟩ ?_
  rintro i ⟨hi,hx⟩
  by_cases hlt:i<ns.length
  ·have g0:ns[i]? =some ns[i]:=AD hlt
   rw[jgW hlt]at hx
   rcases MK ns[i] w with⟨e,eb⟩|⟨e,eb⟩
   ·rw[if_pos e]at hx
    rw[hx]
    simp -implicitDefEqProofs[jJ,-qA,-qB,hlt,g0,eb];refine .inr (Dc (k3 (by rw[hl];simp) (fun e=>by rw[e,hl]at h;cases h)) rfl (fun x r e=>by cases e) rfl ?_)
    simp -implicitDefEqProofs[jJ,-qA,-qB,AQ,St.backH,St.on,Fs,GM,C.same,V.on,U.on,C.on];exact Kr (.inl rfl) rfl rfl rfl rfl rfl
   ·rw[if_neg e]at hx
    simp -implicitDefEqProofs[jJ,-qA,-qB,hlt,g0,eb];exact⟨by omega,by rw[hx];cases F2 w (ns.drop (i+1))<;>simp<;>omega⟩
  ·rw[DU (by omega)]at hx
   have hx:F2 w ns=none:=hx
   rw[hx]
   simp -implicitDefEqProofs[jJ,-qA,-qB,hlt];refine .inr (Dc k2 rfl (fun x r e=>by cases e) rfl ?_)
   simp -implicitDefEqProofs[jJ,-qA,-qB,AQ,St.backH,St.on,Fs,GM,C.same,V.on,U.on,C.on];exact Kr (.inl rfl) rfl rfl rfl rfl rfl
theorem jmd(n:Int)(h:60≤n∧n≤68):CallsF Tryz.prog 368 [.c (.int .i64 n)] (.u (.c (.d (.int .i64 4)))):=by
 refine cO Tryz.func368 rfl ?_;have h1:decide (n≤24)=false:=by simp;omega
 have h2:decide (n≤43)=false:=by simp;omega
 have h3:decide (n≤51)=false:=by simp;omega
 have h4:decide (10≤n)=true:=by simp;omega
 have h5:decide (40≤n)=true:=by simp;omega
 have h6:decide (50≤n)=true:=by simp;omega
 have h7:decide (60≤n)=true:=by simp;omega
 have h8:decide (n≤68)=true:=by simp;omega
 simp -implicitDefEqProofs[jJ,-qA,-qB,h1,h2,h3,h4,h5,h6,h7,h8]
def UG(n:Nat):List UInt8:=if n=2∨n=3 then [76,76] else if n=1∨n=5 then [80,80,80] else if n=7 then [80,80,80,80,80,80] else if n=8 then [80,80] else [80,80,80,80]
theorem jgo{n:Nat}(h:1≤n∧n≤9):CallsF Tryz.prog 370 [.c (.int .i64 (60+n - 1))] (.tup [.c (.d (.str (Ch (By n)))),.c (.d (.str (Ch (UG n))))]):=by
 obtain rfl|rfl|rfl|rfl|rfl|rfl|rfl|rfl|rfl:n=1∨n=2∨n=3∨n=4∨n=5∨n=6∨n=7∨n=8∨n=9:=by omega
 all_goals
  refine cO Tryz.func370 rfl ?_;simp -implicitDefEqProofs[jJ,-qA,-qB,By,UG,Ch]
theorem jja{n:Nat}(h:1≤n∧n≤9):CallsF Tryz.prog 333 [.c (.int .i64 (60+n - 1))] (.tup [.c (.d (.str (Ch (By n)))),.c (.d (.str (Ch (UG n))))]):=by
 have k1:=jmd (60+n - 1) (by omega)
 have k2:=jgo h;refine cO Tryz.func333 rfl ?_;generalize Ch (By n)=w at*;generalize Ch (UG n)=l at*;generalize (60+n - 1:Int)=m at*;simp -implicitDefEqProofs[jJ,-qA,-qB]
 (first|refine Ac k1 ?_|refine Ae k1 ?_)
 simp -implicitDefEqProofs[jJ,-qA,-qB]
 (first|refine Ac k2 ?_|refine Ae k2 ?_)
 simp -implicitDefEqProofs[jJ,-qA,-qB]
theorem jl8{n:Nat}(h:1≤n∧n≤9):CallsF Tryz.prog 253 [.c (.int .i64 (60+n - 1))] (.u (.c (.d (.str (Ch (By n)))))):=by
 have k:=jja h;refine cO Tryz.func253 rfl ?_;generalize Ch (By n)=w at*;generalize (60+n - 1:Int)=m at*;simp -implicitDefEqProofs[jJ,-qA,-qB]
 (first|refine Ac k ?_|refine Ae k ?_)
 simp -implicitDefEqProofs[jJ,-qA,-qB]
theorem jlD(s:Ps)(x y:Int)(h:x≠0):(s.fail x).fail y=s.fail x:=by
 unfold Ps.fail;by_cases h0:s.r=0
 ·simp[h0,h]
 ·simp[h0]
theorem jlC(w:List UInt8):(Pz w=0∧ ∀k:Nat,1≤k→k≤9→By k≠w)∨ ∃k:Nat,1≤k∧k≤9∧Pz w=k∧By k=w∧ ∀j:Nat,1≤j→j<k→By j≠w:=by
 by_cases h: ∃k:Nat,1≤k∧k≤9∧By k=w
 ·obtain⟨k,h1,h2,rfl⟩:=h
  right
  obtain rfl|rfl|rfl|rfl|rfl|rfl|rfl|rfl|rfl:k=1∨k=2∨k=3∨k=4∨k=5∨k=6∨k=7∨k=8∨k=9:=by omega
  all_goals refine⟨_,h1,h2,by decide,rfl,fun j j1 j2=> ?_⟩
  all_goals
   have:j=1∨j=2∨j=3∨j=4∨j=5∨j=6∨j=7∨j=8:=by omega
   rcases this with rfl|rfl|rfl|rfl|rfl|rfl|rfl|rfl<;>first|omega|decide
 ·left
  have q: ∀k:Nat,1≤k→k≤9→By k≠w:=fun k h1 h2 e=>h ⟨k,h1,h2,e⟩
  refine⟨?_,q⟩
  unfold Pz;have q1:By 1≠w:=q 1 (by omega) (by omega)
  have q2:By 2≠w:=q 2 (by omega) (by omega)
  have q3:By 3≠w:=q 3 (by omega) (by omega)
  have q4:By 4≠w:=q 4 (by omega) (by omega)
  have q5:By 5≠w:=q 5 (by omega) (by omega)
  have q6:By 6≠w:=q 6 (by omega) (by omega)
  have q7:By 7≠w:=q 7 (by omega) (by omega)
  have q8:By 8≠w:=q 8 (by omega) (by omega)
  have q9:By 9≠w:=q 9 (by omega) (by omega)
  rw[if_neg (Ne.symm q1),if_neg (Ne.symm q2),if_neg (Ne.symm q3),if_neg (Ne.symm q4),if_neg (Ne.symm q5),if_neg (Ne.symm q6),if_neg (Ne.symm q7),if_neg (Ne.symm q8),if_neg (Ne.symm q9)]
theorem jhP(ns:List ByteArray)(s:Ps)(h:s.l.length=s.p.length):PC 173 [] ns s s.kind.2 (.u (.c (.d (.int .i64 s.kind.1)))):=by
 have k1:=X4 ns s;have k2:=P3 ns s 5;have k3:=UA ns s;have k4:=P3 ns (s.fail 5) 5;rw[jlD s 5 5 (by decide)]at k4
 unfold PC Ps.kind;refine Z3 [] (T:=tb) Ak mixed Tryz.func173 rfl (by decide) (Al rfl) (Al rfl) rfl rfl (H9 _ _) (H9 _ _) ?_;unfold St.initG St.initH
 unfold AQ L7 Ps.wordS at*;cases hw:s.word with
 |none=>
  rw[hw]at k1
  simp -implicitDefEqProofs[jJ,-qA,-qB];refine .inr (Dc k1 rfl (fun x r e=>by cases e) rfl ?_)
  simp -implicitDefEqProofs[jJ,-qA,-qB,AQ,St.backH,St.on,Fs,GM,C.same,V.on,U.on,C.on];refine AV (fun i:Nat=>⟨[(5,vI .i64 1),(4,vB false),(0,vC (.ptr 20 0))],[(20,Hf (s.fail 5) ns),(3000000000000,.gh [.ptr 20 0])]⟩) (fun _=>True) (fun i=>i) 0 (by simp[AW,lk,St.le,vI,vB,vC]) trivial ?_
  intro i _;simp -implicitDefEqProofs[jJ,-qA,-qB];refine .inr (Dc k4 rfl (fun x r e=>by cases e) rfl ?_)
  simp -implicitDefEqProofs[jJ,-qA,-qB,AQ,St.backH,St.on,Fs,GM,C.same,V.on,U.on,C.on];exact Kr (.inl rfl) rfl rfl rfl rfl rfl
 |some w=>
  rw[hw]at k1
  obtain⟨h0,l,hl⟩:=Ps.word_some hw
  have hp:=jlC (B w);simp -implicitDefEqProofs[jJ,-qA,-qB];refine .inr (Dc k1 rfl (fun x r e=>by cases e) rfl ?_)
  simp -implicitDefEqProofs[jJ,-qA,-qB,AQ,St.backH,St.on,Fs,GM,C.same,V.on,U.on,C.on];refine AV (fun i:Nat=>⟨[(5,vI .i64 i),(4,vB true),(3,vC (.d (.str w))),(0,vC (.ptr 20 0))],[(20,Hf s ns),(3000000000000,.gh [.ptr 20 0])]⟩)
   (fun i=>1≤i∧i≤10∧ ∀j:Nat,1≤j→j<i→By j≠B w) (fun i=>10 - i) 1 (by simp[AW,lk,St.le,vI,vB,vC]) ⟨by omega,by omega,fun j h1 h2=>by omega⟩ ?_
  rintro i ⟨hi0,hi,hx⟩
  by_cases hlt:i≤9
  ·have ka:=jl8 (n:=i) ⟨hi0,hlt⟩;rw[show(60+(i:Int) - 1)=((60+i:Nat):Int) - 1 by omega]at ka
   rcases MK (Ch (By i)) w with⟨e,eb⟩|⟨e,eb⟩
   ·have hk:Pz (B w)=i:=by
     rcases hp with⟨_,q⟩|⟨k,p1,p2,p3,p4,p5⟩
     ·exact absurd (by rw[←e];rfl) (q i hi0 hlt)
     ·have:k=i:=by
       rcases Nat.lt_trichotomy k i with q|q|q
       ·exact absurd p4 (hx k p1 q)
       ·exact q
       ·exact absurd (by rw[←e];rfl) (p5 i hi0 q)
      rw[p3,this]
    rw[hk,if_neg (by omega)]
    rw[e]at ka eb
    simp -implicitDefEqProofs[jJ,-qA,-qB,hlt];refine⟨by omega,⟨by omega,by omega⟩,?_⟩
    (first|refine Ac ka ?_|refine Ae ka ?_)
    simp -implicitDefEqProofs[jJ,-qA,-qB,eb];refine .inr (Dc (k3 (by rw[hl];simp) (fun e=>by rw[e,hl]at h;cases h)) rfl (fun x r e=>by cases e) rfl ?_)
    simp -implicitDefEqProofs[jJ,-qA,-qB,AQ,St.backH,St.on,Fs,GM,C.same,V.on,U.on,C.on];exact Kr (.inl rfl) rfl rfl rfl rfl rfl
   ·have hne:By i≠B w:=fun q=>e (by rw[q];rfl)
    generalize Ch (By i)=W at*;simp -implicitDefEqProofs[jJ,-qA,-qB,hlt];refine⟨by omega,⟨by omega,by omega⟩,?_⟩
    (first|refine Ac ka ?_|refine Ae ka ?_)
    simp -implicitDefEqProofs[jJ,-qA,-qB,eb];exact⟨by omega,⟨by omega,fun j j1 j2=>by
     by_cases q:j=i
     ·rw[q];exact hne
     ·exact hx j j1 (by omega)⟩,by omega⟩
  ·have hk:Pz (B w)=0:=by
    rcases hp with⟨q,_⟩|⟨k,p1,p2,p3,p4,p5⟩
    ·exact q
    ·exact absurd p4 (hx k p1 (by omega))
   rw[hk,if_pos rfl]
   simp -implicitDefEqProofs[jJ,-qA,-qB,hlt];refine .inr (Dc k2 rfl (fun x r e=>by cases e) rfl ?_)
   simp -implicitDefEqProofs[jJ,-qA,-qB,AQ,St.backH,St.on,Fs,GM,C.same,V.on,U.on,C.on];exact Kr (.inl rfl) rfl rfl rfl rfl rfl
end Go.Va
