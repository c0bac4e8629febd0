/- a part of the proof -/
import Derived.Test.YtkajmpgbnbikiaaGreatDoorMbj
import Derived.Test.YtkajmpgbnbikiaaGreatDoorMao
import Derived.Test.YtkajmpgbnbikiaaGreatDoorMaj
import Derived.Test.YtkajmpgbnbikiaaGreatDoorMzL
set_option linter.all false
set_option maxHeartbeats 4000000
set_option maxRecDepth 10000
namespace Go.Va
open Int (natCast_add natCast_mul natCast_emod natCast_ediv natCast_pow)
open Go.Proofs
structure Rp where
 n1:Bool
 a1:List Nat
 d1:List Nat
 n2:Bool
 a2:List Nat
 d2:List Nat
def Rp.ds(p:Rp):List D:=[.bool p.n1,Ac p.a1,Ac p.d1,.bool p.n2,Ac p.a2,Ac p.d2]
theorem Rp.ds_len(p:Rp):p.ds.length=6:=rfl
def Ew(l:List Rp):D:= .slice l.length (l.flatMap Rp.ds)
@[simp high]theorem jio(l:List Rp):(l.flatMap Rp.ds).length=l.length*6:=DG Rp.ds_len l
@[simp]theorem lenC_rps(l:List Rp):lenC (.d (Ew l))=some l.length:=rfl
@[simp]theorem flat_rps(l:List Rp):D.flat (Ew l)=false:=rfl
@[simp]theorem jlg(h:List (Nat×Blk))(i:Int)(l:List Rp):idxSl h 6 i (.d (Ew l))=if 0≤i∧i<l.length then some (.d (.ref ((l.drop i.toNat).flatMap Rp.ds))) else none:=by
 unfold Ew idxSl;simp only[jio,and_true,DU Rp.ds_len]
theorem Zy{l:List Rp}{i:Nat}(h:i<l.length):(l.drop i).flatMap Rp.ds= .bool l[i].n1::Ac l[i].a1::Ac l[i].d1:: .bool l[i].n2::Ac l[i].a2::Ac l[i].d2::(l.drop (i+1)).flatMap Rp.ds:=by
 rw[AX h];rfl
structure Rp.Ok (p:Rp):Prop where
 a1:Va.Ok p.a1
 d1:Va.Ok p.d1
 a2:Va.Ok p.a2
 d2:Va.Ok p.d2
def E4(n:Bool)(a d:List Nat):Bool:=decide (a.length≤2)&&decide (d.length≤2)&&ratOk n a d
theorem Qg(n:Bool)(a d:List Nat)(ha:Ok a)(hd:Ok d):CallsF Tryz.prog 36 [.agg [.bool n,Ac a,Ac d]] (.u (.c (.d (.bool (E4 n a d))))):=by
 unfold E4;by_cases h1:a.length≤2
 ·by_cases h2:d.length≤2
  ·have k:=jcP n a d ha (by omega) hd (by omega)
   generalize ratOk n a d=b at*;refine Ak (T:=tb) Ah mixed Tryz.func36 rfl (by decide) (Af rfl) rfl ?_;unfold St.init
   simp -implicitDefEqProofs[jJ,-natCast_add,-natCast_mul,h1,h2]
   (first|refine Ab k ?_|refine Aa k ?_)
   simp -implicitDefEqProofs[jJ,-natCast_add,-natCast_mul]
  ·refine Ak (T:=tb) Ah mixed Tryz.func36 rfl (by decide) (Af rfl) rfl ?_;unfold St.init
   simp -implicitDefEqProofs[jJ,-natCast_add,-natCast_mul,h1,h2]
 ·refine Ak (T:=tb) Ah mixed Tryz.func36 rfl (by decide) (Af rfl) rfl ?_;unfold St.init
  simp -implicitDefEqProofs[jJ,-natCast_add,-natCast_mul,h1]
def Rp.tiny(p:Rp):Bool:=E4 p.n1 p.a1 p.d1&&E4 p.n2 p.a2 p.d2
def IJ(l:List Rp):Bool:=decide (l.length≤10)&&l.all Rp.tiny
theorem jb3(l:List Rp)(ho: ∀p∈l,p.Ok):CallsF Tryz.prog 13 [.c (Ew l),.c (.slice 0 [])] (.u (.c (.d (.bool (IJ l))))):=by
 unfold IJ;by_cases h10:l.length≤10
 ·have k1:=fun i (h:i<l.length)=>Qg l[i].n1 l[i].a1 l[i].d1 (ho _ (AD h)).a1 (ho _ (AD h)).d1
  have k2:=fun i (h:i<l.length)=>Qg l[i].n2 l[i].a2 l[i].d2 (ho _ (AD h)).a2 (ho _ (AD h)).d2
  have hfin:(∀j (h:j<l.length),l[j].tiny=true)→l.all Rp.tiny=true:=fun h3=>by
   rw[jzy]
   intro x hx;obtain⟨j,hj,rfl⟩:=List.mem_iff_getElem.1 hx;exact h3 j hj
  have hcl: ∀i (h:i<l.length),l[i].tiny=false→l.all Rp.tiny=false:=fun i h hn=>by
   rw[List.all_eq_false]
   exact⟨_,AD h,by simpa using hn⟩
  generalize l.all Rp.tiny=ba at*;have h10': ¬10<l.length:=by omega
  clear ho;refine Ak (T:=tb) Ah mixed Tryz.func13 rfl (by decide) (Af rfl) rfl ?_;unfold St.init
  simp -implicitDefEqProofs[jJ,-natCast_add,-natCast_mul,h10,h10'];refine AF (fun i:Nat=>⟨[(5,vI .i64 i),(0,vC (.d (Ew l))),(1,vC (.d (.slice 0 [])))],[]⟩)
   (fun i=>i≤l.length∧ ∀j (h:j<l.length),j<i→l[j].tiny=true) (fun i=>l.length - i) 0 (by simp[Aw,lk,St.le,vI,vC]) ⟨by omega,fun j h hj=>by omega⟩ ?_
  rintro i ⟨h2,h3⟩
  by_cases h:i<l.length
  ·have e2:=Zy h;have k1:=k1 i h;have k2:=k2 i h;have hcl:=hcl i h;unfold Rp.tiny at hcl;have h4: ∀j (hj:j<l.length),j<i+1→E4 l[i].n1 l[i].a1 l[i].d1=true→E4 l[i].n2 l[i].a2 l[i].d2=true→l[j].tiny=true:=fun j hj hp e1 e2=>if e:j=i then by subst e;unfold Rp.tiny;rw[e1,e2];rfl else h3 j hj (by omega)
   cases b1:E4 l[i].n1 l[i].a1 l[i].d1 with
   |false=>
    rw[b1]at k1 hcl
    have hcl:=hcl rfl;subst hcl;simp -implicitDefEqProofs[jJ,-natCast_add,-natCast_mul,h,e2]
    (first|refine Ab k1 ?_|refine Aa k1 ?_)
    simp -implicitDefEqProofs[jJ,-natCast_add,-natCast_mul]
   |true=>
    rw[b1]at k1 hcl
    cases b2:E4 l[i].n2 l[i].a2 l[i].d2 with
    |false=>
     rw[b2]at k2 hcl
     have hcl:=hcl rfl;subst hcl;simp -implicitDefEqProofs[jJ,-natCast_add,-natCast_mul,h,e2]
     (first|refine Ab k1 ?_|refine Aa k1 ?_)
     simp -implicitDefEqProofs[jJ,-natCast_add,-natCast_mul,h,e2]
     (first|refine Ab k2 ?_|refine Aa k2 ?_)
     simp -implicitDefEqProofs[jJ,-natCast_add,-natCast_mul]
    |true=>
     rw[b2]at k2
     simp -implicitDefEqProofs[jJ,-natCast_add,-natCast_mul,h,e2]
     (first|refine Ab k1 ?_|refine Aa k1 ?_)
     simp -implicitDefEqProofs[jJ,-natCast_add,-natCast_mul,h,e2]
     (first|refine Ab k2 ?_|refine Aa k2 ?_)
     simp -implicitDefEqProofs[jJ,-natCast_add,-natCast_mul];exact⟨by omega,⟨by omega,fun j hj hp=>h4 j hj hp b1 b2⟩,by omega⟩
  ·have hi2:i=l.length:=by omega
   subst hi2;have hany:=hfin fun j hj=>h3 j hj hj
   subst hany;simp -implicitDefEqProofs[jJ,-natCast_add,-natCast_mul];refine AF (fun i:Nat=>⟨[(6,vI .i64 i),(1,vC (.d (.slice 0 [])))],[]⟩) (fun i=>i=0) (fun i=>0) 0 (by simp[Aw,lk,St.le,vI,vC]) rfl ?_
   rintro i rfl
   simp -implicitDefEqProofs[jJ,-natCast_add,-natCast_mul]
 ·have h10':10<l.length:=by omega
  refine Ak (T:=tb) Ah mixed Tryz.func13 rfl (by decide) (Af rfl) rfl ?_;unfold St.init
  simp -implicitDefEqProofs[jJ,-natCast_add,-natCast_mul,h10,h10']
def Rp.pq(p:Rp):Pq:=⟨mkRat (toZ p.n1 (val p.a1)) (val p.d1),mkRat (toZ p.n2 (val p.a2)) (val p.d2)⟩
theorem QD{n:Bool}{a d:List Nat}(ha:Ok a)(hd:Ok d)(h:ratOk n a d=true):[.bool n,Ac a,Ac d]=AS (mkRat (toZ n (val a)) (val d)):=by
 obtain⟨h1,h2,h3,h4,h5⟩:=Fu h ha hd
 have e1:(mkRat (toZ n (val a)) (val d)).num=toZ n (val a):=by
  rw[Rat.num_mkRat,if_neg h3]
  have:(toZ n (val a)).natAbs=val a:=by unfold toZ;cases n<;>simp
  rw[this,Nat.gcd_comm,h4]
  simp
 have e2:(mkRat (toZ n (val a)) (val d)).den=val d:=by
  rw[Rat.den_mkRat,if_neg h3]
  have:(toZ n (val a)).natAbs=val a:=by unfold toZ;cases n<;>simp
  rw[this,Nat.gcd_comm,h4]
  simp
 have e3:(toZ n (val a)).natAbs=val a:=by unfold toZ;cases n<;>simp
 have e4:decide (toZ n (val a)<0)=n:=by
  unfold toZ;cases n
  ·simp
  ·have:=h5 rfl
   simp only[if_true,decide_eq_true_eq];omega
 unfold AS;rw[e1,e2,e3,e4,←h1,←h2]
theorem Qs{n:Bool}{a d:List Nat}{k:Nat}(ha:Ok a)(hd:Ok d)(h:ratOk n a d=true)(la:a.length≤k)(ld:d.length≤k):Bq (mkRat (toZ n (val a)) (val d)) k:=by
 obtain⟨h1,h2,h3,h4,h5⟩:=Fu h ha hd
 have e3:(toZ n (val a)).natAbs=val a:=by unfold toZ;cases n<;>simp
 have p1:=Nat.lt_of_lt_of_le (Bn _ ha) (Nat.pow_le_pow_right (by decide:0<65536) la)
 have p2:=Nat.lt_of_lt_of_le (Bn _ hd) (Nat.pow_le_pow_right (by decide:0<65536) ld)
 constructor
 ·rw[Rat.num_mkRat,if_neg h3,e3,Nat.gcd_comm,h4]
  simpa [e3]using p1
 ·rw[Rat.den_mkRat,if_neg h3,e3,Nat.gcd_comm,h4]
  simpa using p2
theorem Sw{p:Rp}(ho:p.Ok)(h:p.tiny=true):p.ds=p.pq.ds∧p.pq.B 2:=by
 unfold Rp.tiny E4 at h;simp only[AC,decide_eq_true_eq]at h;obtain⟨⟨⟨h1,h2⟩,h3⟩,⟨h4,h5⟩,h6⟩:=h;refine⟨?_,Qs ho.a1 ho.d1 h3 h1 h2,Qs ho.a2 ho.d2 h6 h4 h5⟩;unfold Pq.ds Rp.pq;simp only;rw[←QD ho.a1 ho.d1 h3,←QD ho.a2 ho.d2 h6];rfl
theorem jdE{l:List Rp}(ho: ∀p∈l,p.Ok)(h:IJ l=true):Ew l=Cv (l.map Rp.pq)∧(∀q∈l.map Rp.pq,q.B 2)∧l.length≤10:=by
 unfold IJ at h;simp only[AC,decide_eq_true_eq,jzy]at h;refine⟨?_,fun q hq=> ?_,h.1⟩
 ·unfold Ew Cv;rw[List.length_map,List.flatMap_map]
  congr 1
  have: ∀m:List Rp,(∀p∈m,p.ds=p.pq.ds)→m.flatMap Rp.ds=m.flatMap fun p=>p.pq.ds:=by
   intro m hm
   induction m with
   |nil=>rfl
   |cons p m ih=>rw[List.flatMap_cons,List.flatMap_cons,hm p (by simp),ih fun q hq=>hm q (by simp[hq])]
  exact this l fun p hp=>(Sw (ho p hp) (h.2 p hp)).1
 ·obtain⟨p,hp,rfl⟩:=jzk.1 hq
  exact(Sw (ho p hp) (h.2 p hp)).2
end Go.Va
namespace Go.Va
def EW{α:Type}(n:Nat)(k:Nat→α):α:=Nat.rec (motive:=fun _=>α) (k 0) (fun p _=>k (p+1)) n
theorem GZ{α:Type}(n:Nat)(k:Nat→α):EW n k=k n:=by cases n<;>rfl
def LA{α:Type}:Int→(Int→α)→α
 | .ofNat n,k=>EW n fun n=>k (.ofNat n)
 | .negSucc n,k=>EW n fun n=>k (.negSucc n)
theorem jeB{α:Type}(n:Int)(k:Int→α):LA n k=k n:=by cases n<;>simp[LA,GZ]
def U1{α:Type}:Bool→(Bool→α)→α
 |true,k=>k true
 |false,k=>k false
theorem jiY{α:Type}(b:Bool)(k:Bool→α):U1 b k=k b:=by cases b<;>rfl
def SR{α:Type}(x:IntKind)(k:IntKind→α):α:=match x with| .i8=>k .i8| .i16=>k .i16| .i32=>k .i32| .i64=>k .i64| .u8=>k .u8| .u16=>k .u16| .u32=>k .u32| .u64=>k .u64
theorem jep{α:Type}(x:IntKind)(k:IntKind→α):SR x k=k x:=by cases x<;>rfl
mutual
def fD{α:Type}:D→(D→α)→α
 | .int q n,k=>SR q fun q=>LA n fun n=>k (.int q n)
 | .bool b,k=>U1 b fun b=>k (.bool b)
 | .str s,k=>k (.str s)
 | .slice n cs,k=>EW n fun n=>DK cs fun cs=>k (.slice n cs)
 | .ref cs,k=>DK cs fun cs=>k (.ref cs)
 | .fn f cs,k=>EW f fun f=>DK cs fun cs=>k (.fn f cs)
 | .nilFn,k=>k .nilFn
 | .nilPtr,k=>k .nilPtr
 | .iface t cs,k=>EW t fun t=>DK cs fun cs=>k (.iface t cs)
 | .lit x,k=>k (.lit x)
 | .any,k=>k .any
def DK{α:Type}:List D→(List D→α)→α
 |[],k=>k []
 |x::r,k=>fD x fun x=>DK r fun r=>k (x::r)
end
mutual
theorem LZ{α:Type}: ∀(x:D) (k:D→α),fD x k=k x
 | .int q n,k=>by simp only[fD,jep,jeB]
 | .bool b,k=>by simp only[fD,jiY]
 | .str s,k=>by simp only[fD]
 | .slice n cs,k=>by simp only[fD,GZ,FC cs]
 | .ref cs,k=>by simp only[fD,FC cs]
 | .fn f cs,k=>by simp only[fD,GZ,FC cs]
 | .nilFn,k=>by simp only[fD]
 | .nilPtr,k=>by simp only[fD]
 | .iface t cs,k=>by simp only[fD,GZ,FC cs]
 | .lit x,k=>by simp only[fD]
 | .any,k=>by simp only[fD]
theorem FC{α:Type}: ∀(l:List D) (k:List D→α),DK l k=k l
 |[],k=>by simp only[DK]
 |x::r,k=>by simp only[DK,LZ x,FC r]
end
def GQ{α β:Type}(f:β→(β→α)→α):List β→(List β→α)→α
 |[],k=>k []
 |x::r,k=>f x fun x=>GQ f r fun r=>k (x::r)
theorem II{α β:Type}{f:β→(β→α)→α}(hf: ∀x k,f x k=k x): ∀(l:List β) (k:List β→α),GQ f l k=k l
 |[],k=>rfl
 |x::r,k=>by simp only[GQ,hf,II hf r]
def IW{α:Type}(s:St)(k:St→α):α:=k s
theorem Ke{α:Type}(s:St)(k:St→α):IW s k=k s:=rfl
def fA{α:Type}:A→(A→α)→α
 | .c x,k=>fD x fun x=>k (.c x)
 | .agg cs,k=>DK cs fun cs=>k (.agg cs)
theorem SV{α:Type}(x:A)(k:A→α):fA x k=k x:=by cases x<;>simp only[fA,LZ,FC]
def H2{α:Type}:RC→(RC→α)→α
 | .d x,k=>fD x fun x=>k (.d x)
 | .own a b cs,k=>EW a fun a=>EW b fun b=>DK cs fun cs=>k (.own a b cs)
theorem QB{α:Type}(x:RC)(k:RC→α):H2 x k=k x:=by cases x<;>simp only[H2,LZ,GZ,FC]
def Iu{α:Type}:RU→(RU→α)→α
 | .c x,k=>H2 x fun x=>k (.c x)
 | .agg cs,k=>GQ H2 cs fun cs=>k (.agg cs)
theorem Q4{α:Type}(x:RU)(k:RU→α):Iu x k=k x:=by cases x<;>simp only[Iu,QB,II (f:=H2) QB]
def fR{α:Type}:R→(R→α)→α
 | .u x,k=>Iu x fun x=>k (.u x)
 | .tup xs,k=>GQ Iu xs fun xs=>k (.tup xs)
theorem jfy{α:Type}(x:R)(k:R→α):fR x k=k x:=by cases x<;>simp only[fR,Q4,II (f:=Iu) Q4]
def HZ{α:Type}(L:List (Nat×α)):List Nat→List (Nat×α)
 |[]=>[]
 |k::r=>match lk k L with|some v=>(k,v)::HZ L r|none=>HZ L r
theorem Mg{α:Type}(L:List (Nat×α)): ∀l,Aw L (HZ L l)
 |[]=>trivial
 |k::r=>by
  unfold HZ;split
  ·rename_i v h
   exact⟨h,Mg L r⟩
  ·exact Mg L r
section
variable (T:Au) (cal:FuncId→List A→Option R) (sA:FuncId→Option Nat) (calA:FuncId→Nat→Nat→List D→List A→Option (Nat×List D))
def Nr(dst:Option Nat)(st:St)(g sz:Nat)(us:List U):Option St:=
 match us,dst with
 | .c .nl::us',some d=>let fz:=st.reachU us';(us'.mapM (U.toA fz st.h)).bind fun aa=>(calA g sz 0 [] aa).map fun r=>(((((st.freeze fz).new d (.row sz [] true)).drop d).new d (.row sz r.2 true)).put (some d) (vC (.sl d 0 r.1)))
 | .c (.sl k 0 n)::us',some d=>
  let fz:=(st.reachU us').filter fun i=>i !=k
  let s1:=st.freeze fz
  match lk k s1.h with
  |some (.row z cs true)=>if z=sz then (us'.mapM (U.toA fz st.h)).bind fun aa=>(calA g sz n cs aa).map fun r=>((s1.drop k).new d (.row sz r.2 true)).put (some d) (vC (.sl d 0 r.1)) else none
  |_=>none
 |_,_=>none
def Kc(dst:Option Nat)(st:St)(g:FuncId)(caps:List D)(us:List U):Option St:=
 match sA g,caps with
 |some sz,[]=>Nr calA dst st g sz us
 |_,_=>(st.argsW (st.reachU us) us caps).bind fun aa=>(cal g aa).map fun r=>st.back dst (st.reachU us) r
def SS(dst:Option Nat)(st:St)(us:List U)(u:U):Option St:=
 match u with
 | .c (.d (.fn g caps))=>Kc cal sA calA dst st g caps us
 | .clo g cs=>Kc cal sA calA dst st g [] (us++cs.map .c)
 |_=>none
def H0(o:Oper)(st:St):Option St:=
 match o.op with
 | .call { callee:= .value f,args,.. }=>(st.evU f).bind fun u=>(args.toList.mapM st.evU).bind fun us=>SS cal sA calA o.dst st us u
 |_=>Dx T o st
def KP(ops:List Oper)(o:Oper)(st:St):Option St:=
 match o.guard with
 |none=>H0 T cal sA calA o st
 |some (j,want)=>
  match (ops[j]?).bind (·.dst)with
  |some d=>
   (match lk d st.t with
   |some (.u (.c (.d (.bool b))))=>if b=want then H0 T cal sA calA o (st.put (some d) (vB want)) else some ((st.put (some d) (vB !want)).put o.dst (.tup []))
   |some (.tup [])=>some (st.put o.dst (.tup []))
   |_=>none)
  |none=>none
def IZ(ops:List Oper):List Oper→St→Option St
 |[],st=>some st
 |o::r,st=>(KP T cal sA calA ops o st).bind (IZ ops r)
def JJ(d:Option Nat)(E:St)(g:FuncId)(caps:List D)(us:List U):Option Eff:=
 (E.argsW (E.reachU us) us caps).bind fun aa=>(cal g aa).bind fun r=>if r.flat=true∨GJ us=true then some (EA d r) else none
def KC(o:Oper)(E:St):Option Eff:=
 match o.op with
 | .call { callee:= .value f,args,.. }=>(E.evU f).bind fun u=>(args.toList.mapM E.evU).bind fun us=>
  (match u with
  | .c (.d (.fn g caps))=>JJ cal o.dst E g caps us
  | .clo g cs=>JJ cal o.dst E g [] (us++cs.map .c)
  |_=>none)
 |_=>effOp T o E
def JY(want:Bool)(v:Option V)(k1:Option Eff):Option Eff:=
 match v with
 |some (.u (.c (.d (.bool b))))=>if b=want then k1 else some (.val (.tup []))
 |some (.tup [])=>some (.val (.tup []))
 |_=>none
def K3(ops:List Oper)(o:Oper)(E:St):Option Eff:=
 match o.guard with
 |none=>KC T cal o E
 |some (j,want)=>match (ops[j]?).bind (·.dst)with|some d=>JY want (lk d E.t) (KC T cal o E)|none=>none
def Ls(ops:List Oper)(o:Oper)(E:St):Option Eff:=
 match o.guard with
 |none=>GT T o E
 |some (j,want)=>match (ops[j]?).bind (·.dst)with|some d=>JY want (lk d E.t) (GT T o E)|none=>none
def Mr(o:Oper)(E:St):Option Eff:=
 match o.guard,o.op with
 |none,.call { callee:= .value f,args,.. }=>(E.evU f).bind fun u=>(args.toList.mapM E.evU).bind fun us=>
  (match u with
  | .c (.d (.fn g []))=>(sA g).bind fun sz=>(match us,o.dst with
   | .c (.sl b 0 n)::us',some d=>(match lk b E.h with
    |some (.row z cs true)=>if z=sz then (us'.mapM (U.toA [] E.h)).bind fun aa=>(calA g sz n cs aa).map fun r=> .app b (.row sz r.2 true) (vC (.sl d 0 r.1)) else none
    |_=>none)
   | .c .nl::us',some d=>(us'.mapM (U.toA [] E.h)).bind fun aa=>(calA g sz 0 [] aa).map fun r=> .new (.row sz r.2 true) (vC (.sl d 0 r.1))
   |_,_=>none)
  |_=>none)
 |_,_=>none
def HC(ops:List Oper):List DI→List Oper→St→Option (List Oper×St)
 |[],rest,S=>some (rest,S)
 |i::is,o::r,S=>
  (if i.k=4 then Ls T ops o (B5 i S) else if i.k=5 then Mr sA calA o (B5 i S) else K3 T cal ops o (B5 i S)).bind fun x=>
   if Dy i (o.dst.getD 0) x=true then HC ops is r (Lj o.dst x S) else none
 |_::_,[],_=>none
def QA(st:St)(ts:List Nat):List Nat:=(ts.flatMap fun t=>match lk t st.t with|some (.u u)=>Bu st.h 5 u.all|_=>[]).filter fun i=>match lk i st.h with|some (.row ..)=>true|_=>false
def Ft(ops:List Oper):List Seg→List Oper→St→Option St
 |[],_,st=>some st
 | .one::r,o::rest,st=>(KP T cal sA calA ops o st).bind fun s=>Ft ops r rest s
 | .one::_,[],_=>none
 | .any ts ds is::r,rest,st=>(HC T cal sA calA ops is rest (purges ds (st.freeze (QA st ts)))).bind fun p=>Ft ops r p.1 p.2
def HV{α:Type}(L:List (Nat×α)):List (Nat×α)→List (Nat×α)
 |[]=>[]
 |(k,_)::r=>match lk k L with
  |some v=>(k,v)::HV L r
  |none=>HV L r
def Gb(l:List Nat)(s:St):St:=⟨HZ s.t l,HV s.h s.h⟩
def HS(l:List Nat)(f:St→Option (Exit×St)):Nat→St→Option (Exit×St)
 |0,_=>none
 |n+1,st=>(f st).bind fun p=>match p.1 with| .normal=>IW (Gb l p.2) fun s=>HS l f n s|_=>some p
abbrev FE:=Nat→Option (List (List Nat)×List Seg)
def evC(pln:FE)(l:List Nat)(N:Nat):Code→St→Option (Exit×St)
 | .skip,st=>some (.normal,st)
 | .region id ops draw,st=>
  if draw then (pln id).bind fun p=>(Ft T cal sA calA ops.toList p.2 ops.toList st).bind fun s=>IW s fun s=>some (.normal,s)
  else (IZ T cal sA calA ops.toList ops.toList st).bind fun s=>IW s fun s=>some (.normal,s)
 | .seq a b,st=>(evC pln l N a st).bind fun p=>match p.1 with| .normal=>evC pln l N b p.2|_=>some p
 | .cond c x y,st=>match st.evB c with|some true=>evC pln l N x st|some false=>evC pln l N y st|none=>none
 | .block id c,st=>(evC pln l N c st).map fun p=>match p.1 with| .exit j=>if j=id then (.normal,p.2) else p|_=>p
 | .loop c,st=>IW (Gb l st) fun s=>HS l (evC pln l N c) N s
 | .exit id,st=>some (.exit id,st)
 | .ret,st=>some (.ret,st)
 |_,_=>none
def B2(pln:FE):Code→Bool
 | .region id ops draw=> !draw||(match pln id with|some p=>KN ops.toList p.1 p.2|none=>true)
 | .seq a b=>B2 pln a&&B2 pln b
 | .cond _ x y=>B2 pln x&&B2 pln y
 | .block _ c=>B2 pln c
 | .loop c=>B2 pln c
 |_=>true
def S5(st:St):C→Bool
 | .sl i 0 n=>(match lk i st.h with|some (.row sz cs true)=>decide (cs.length=n*sz)|_=>false)
 |_=>false
def Jn(st:St)(c:C):Option RC:=
 match c with
 | .sl i 0 n=>(match lk i st.h with|some (.row sz cs true)=>if cs.length=n*sz then some (.own sz n cs) else none|_=>none)
 |_=>none
def Jr(st:St)(pure:Bool)(c:C):Option RC:=if pure=true∧c.id?.isSome=true then none else (st.cD c).map .d
def E7(st:St)(pure:Bool):U→Option RU
 | .c x=>(Jr st pure x).map .c
 | .agg cs=>(cs.mapM (Jr st pure)).map .agg
 | .clo _ _=>none
def LF(st:St)(v:V):Option R:=
 match v with
 | .u (.c x)=>if S5 st x then (Jn st x).map fun r=> .u (.c r) else (E7 st false (.c x)).map .u
 | .u u=>(E7 st false u).map .u
 | .tup (.c x::us)=>if S5 st x&&us.all (fun u=>u.all.all fun c=>c.id?.isNone) then (Jn st x).bind fun r=>(us.mapM (E7 st true)).map fun rs=> .tup (.c r::rs)
  else ((U.c x::us).mapM (E7 st false)).map .tup
 | .tup us=>(us.mapM (E7 st false)).map .tup
 |_=>none
end
section
variable {P:Program} {T:Au} {cal:FuncId→List A→Option R} {sA:FuncId→Option Nat} {calA:FuncId→Nat→Nat→List D→List A→Option (Nat×List D)}
theorem Zw(hA: ∀g sz n cs aa m cs',calA g sz n cs aa=some (m,cs')→CallsA P g sz n cs aa m cs'){dst:Option Nat}{st s:St}{g sz:Nat}{us:List U}{K:St→Prop}
  (h:Nr calA dst st g sz us=some s) (hk:K s):Ea P dst st K g [] us:=by
 unfold Nr at h;split at h
 ·rename_i us' d
  simp only[jzd,jze]at h;obtain⟨aa,haa,r,hr,rfl⟩:=h;exact .inr (.inr (.inr (.inr (.inl (.inr (.inr (.inr (.inr ⟨rfl,_,sz,r.1,d,r.2,us',aa,rfl,haa,rfl,hA _ _ _ _ _ _ _ hr,hk⟩))))))))
 ·rename_i k n us' d
  simp only at h;split at h
  ·rename_i z cs hl
   split at h
   ·rename_i hz
    subst hz;simp only[jzd,jze]at h;obtain⟨aa,haa,r,hr,rfl⟩:=h;refine .inr (.inr (.inr (.inr (.inl (.inr (.inr (.inr (.inl ⟨rfl,_,k,n,z,r.1,d,cs,r.2,us',aa,rfl,?_,hl,haa,rfl,hA _ _ _ _ _ _ _ hr,hk⟩))))))));simp
   ·cases h
  ·cases h
 ·cases h
theorem TQ(hc: ∀g aa r,cal g aa=some r→CallsF P g aa r)(hA: ∀g sz n cs aa m cs',calA g sz n cs aa=some (m,cs')→CallsA P g sz n cs aa m cs'){dst:Option Nat}{st s:St}{g:FuncId}{caps:List D}{us:List U}{K:St→Prop}
  (h:Kc cal sA calA dst st g caps us=some s) (hk:K s):Ea P dst st K g caps us:=by
 unfold Kc at h;split at h
 ·exact Zw hA h hk
 ·simp only[jzd,jze]at h;obtain⟨aa,haa,r,hr,rfl⟩:=h;exact .inl ⟨aa,haa,r,hc _ _ _ hr,hk⟩
theorem KY(hc: ∀g aa r,cal g aa=some r→CallsF P g aa r)(hA: ∀g sz n cs aa m cs',calA g sz n cs aa=some (m,cs')→CallsA P g sz n cs aa m cs'){o:Oper}{st s:St}{K:St→Prop}
  (h:H0 T cal sA calA o st=some s) (hk:K s):wpOp P T o st K:=by
 unfold H0 at h;unfold wpOp;split at h
 ·rename_i f args ts ho
  rw[ho]
  simp only[jzd]at h;obtain⟨u,hu,us,hus,h⟩:=h;refine⟨u,hu,?_⟩;unfold SS at h;unfold Ev;split at h
  ·exact⟨us,hus,TQ hc hA h hk⟩
  ·exact⟨us,hus,TQ hc hA h hk⟩
  ·cases h
 ·rename_i hno
  split
  ·rename_i f args ts ho
   exact absurd ho (hno f args ts)
  ·exact⟨s,h,hk⟩
theorem Ud(hc: ∀g aa r,cal g aa=some r→CallsF P g aa r)(hA: ∀g sz n cs aa m cs',calA g sz n cs aa=some (m,cs')→CallsA P g sz n cs aa m cs'){ops:List Oper}{o:Oper}{st s:St}{K:St→Prop}
  (h:KP T cal sA calA ops o st=some s) (hk:K s):B3 P T ops o st K:=by
 unfold KP at h;unfold B3;split at h
 ·rename_i hg
  rw[hg]
  exact KY hc hA h hk
 ·rename_i j want hg
  rw[hg]
  dsimp only
  split at h
  ·rename_i d hd
   rw[hd]
   dsimp only
   unfold Dl;split at h
   ·rename_i b hb
    rw[hb]
    dsimp only
    split at h
    ·rename_i e
     exact⟨fun _=>KY hc hA h hk,fun e2=>by subst e;cases b<;>cases e2⟩
    ·rename_i e
     refine⟨fun e2=>absurd e2 e,fun _=> ?_⟩
     unfold GA;cases h;exact hk
   ·rename_i hb
    rw[hb]
    dsimp only
    unfold GA;cases h;exact hk
   ·cases h
  ·cases h
theorem QU(hc: ∀g aa r,cal g aa=some r→CallsF P g aa r)(hA: ∀g sz n cs aa m cs',calA g sz n cs aa=some (m,cs')→CallsA P g sz n cs aa m cs'){ops:List Oper}: ∀{l:List Oper} {st s:St} {K:St→Prop},
  IZ T cal sA calA ops l st=some s→K s→ES P T ops l st K
 |[],st,s,K,h,hk=>by
  simp only[IZ,Option.some.injEq]at h;subst h;exact hk
 |o::r,st,s,K,h,hk=>by
  simp only[IZ,jzd]at h;obtain⟨s1,h1,h2⟩:=h;exact Ud hc hA h1 (QU hc hA h2 hk)
theorem R7(hc: ∀g aa r,cal g aa=some r→CallsF P g aa r){d:Option Nat}{E:St}{g:FuncId}{caps:List D}{us:List U}{x:Eff}{k:Eff→Prop}(h:JJ cal d E g caps us=some x)(hk:k x):G6 P d E k g caps us:=by
 unfold JJ at h;simp only[jzd]at h;obtain⟨aa,haa,r,hr,h⟩:=h;split at h
 ·rename_i hf
  cases h;exact⟨aa,haa,r,hc _ _ _ hr,hf,hk⟩
 ·cases h
theorem Pc(hc: ∀g aa r,cal g aa=some r→CallsF P g aa r){o:Oper}{E:St}{x:Eff}{k:Eff→Prop}(h:KC T cal o E=some x)(hk:k x):AV P T o E k:=by
 unfold KC at h;unfold AV;split at h
 ·rename_i f args ts ho
  rw[ho]
  simp only[jzd]at h;obtain⟨u,hu,us,hus,h⟩:=h;refine⟨u,hu,?_⟩;unfold GN;split at h
  ·exact⟨us,hus,R7 hc h hk⟩
  ·exact⟨us,hus,R7 hc h hk⟩
  ·cases h
 ·rename_i hno
  split
  ·rename_i f args ts ho
   exact absurd ho (hno f args ts)
  ·exact⟨x,h,hk⟩
theorem SF{want:Bool}{v:Option V}{k1:Option Eff}{x:Eff}{k:Eff→Prop}{K1:Prop}(h1:k1=some x→K1)(h:JY want v k1=some x)(hk:k x):BN want v K1 (k (.val (.tup []))):=by
 unfold JY at h;unfold BN;split at h
 ·rename_i b
  split at h
  ·rename_i e
   exact⟨fun _=>h1 h,fun e2=>by subst e;cases b<;>cases e2⟩
  ·rename_i e
   cases h;exact⟨fun e2=>absurd e2 e,fun _=>hk⟩
 ·cases h;exact hk
 ·cases h
theorem YQ(hc: ∀g aa r,cal g aa=some r→CallsF P g aa r){ops:List Oper}{o:Oper}{E:St}{x:Eff}{k:Eff→Prop}(h:K3 T cal ops o E=some x)(hk:k x):C2 P T ops o E k:=by
 unfold K3 at h;unfold C2;split at h
 ·rename_i hg
  rw[hg]
  exact Pc hc h hk
 ·rename_i j want hg
  rw[hg]
  dsimp only
  split at h
  ·rename_i d hd
   rw[hd]
   exact SF (fun e=>Pc hc e hk) h hk
  ·cases h
theorem jc6{ops:List Oper}{o:Oper}{E:St}{x:Eff}{k:Eff→Prop}(h:Ls T ops o E=some x)(hk:k x):DL T ops o E k:=by
 unfold Ls at h;unfold DL;split at h
 ·rename_i hg
  rw[hg]
  exact⟨x,h,hk⟩
 ·rename_i j want hg
  rw[hg]
  dsimp only
  split at h
  ·rename_i d hd
   rw[hd]
   exact SF (fun e=>⟨x,e,hk⟩) h hk
  ·cases h
theorem jaj(hA: ∀g sz n cs aa m cs',calA g sz n cs aa=some (m,cs')→CallsA P g sz n cs aa m cs'){o:Oper}{E:St}{x:Eff}{k:Eff→Prop}(h:Mr sA calA o E=some x)(hk:k x):FI P o E k:=by
 unfold Mr at h;unfold FI;split at h
 ·rename_i f args ts hg ho
  rw[hg,ho]
  dsimp only
  simp only[jzd]at h;obtain⟨u,hu,us,hus,h⟩:=h;refine⟨u,hu,?_⟩;unfold Hk;split at h
  ·rename_i g
   simp only[jzd]at h;obtain⟨sz,hsz,h⟩:=h;refine⟨us,hus,?_⟩;split at h
   ·rename_i b n us' d hd
    split at h
    ·rename_i z cs hl
     split at h
     ·rename_i hz
      subst hz;simp only[jzd,jze]at h;obtain⟨aa,haa,r,hr,rfl⟩:=h;exact .inl ⟨b,n,z,r.1,d,cs,r.2,us',aa,rfl,hl,haa,hd,hA _ _ _ _ _ _ _ hr,hk⟩
     ·cases h
    ·cases h
   ·rename_i us' d hd
    simp only[jzd,jze]at h;obtain⟨aa,haa,r,hr,rfl⟩:=h;exact .inr ⟨sz,r.1,d,r.2,us',aa,rfl,haa,hd,hA _ _ _ _ _ _ _ hr,hk⟩
   ·cases h
  ·cases h
 ·cases h
theorem P9(hc: ∀g aa r,cal g aa=some r→CallsF P g aa r)(hA: ∀g sz n cs aa m cs',calA g sz n cs aa=some (m,cs')→CallsA P g sz n cs aa m cs'){ops:List Oper}: ∀{is:List DI} {rest:List Oper} {S:St} {p:List Oper×St} {fin:List Oper→St→Prop},
  HC T cal sA calA ops is rest S=some p→fin p.1 p.2→Bv P T ops is rest S fin
 |[],rest,S,p,fin,h,hk=>by
  simp only[HC,Option.some.injEq]at h;subst h;exact hk
 |i::is,o::r,S,p,fin,h,hk=>by
  simp only[HC,jzd]at h;obtain⟨x,hx,h⟩:=h;split at h
  case isFalse=>cases h
  rename_i hok
  have hrec:CB i o.dst S (fun S'=>Bv P T ops is r S' fin) x:=⟨hok,P9 hc hA h hk⟩
  simp only[Bv];split at hx
  ·rename_i e
   rw[if_pos e]
   exact jc6 hx hrec
  ·rename_i e
   rw[if_neg e]
   split at hx
   ·rename_i e2
    rw[if_pos e2]
    exact jaj hA hx hrec
   ·rename_i e2
    rw[if_neg e2]
    exact YQ hc hx hrec
 |_::_,[],_,_,_,h,_=>by simp[HC]at h
theorem M5(hc: ∀g aa r,cal g aa=some r→CallsF P g aa r)(hA: ∀g sz n cs aa m cs',calA g sz n cs aa=some (m,cs')→CallsA P g sz n cs aa m cs'){ops:List Oper}: ∀{segs:List Seg} {rest:List Oper} {st s:St} {K:St→Prop},
  Ft T cal sA calA ops segs rest st=some s→K s→ ∃segs',(∀pl lo,D1 ops pl lo segs'=D1 ops pl lo segs)∧DX P T ops segs' rest K st
 |[],_,st,s,K,h,hk=>by
  simp only[Ft,Option.some.injEq]at h;subst h;exact⟨[],fun _ _=>rfl,hk⟩
 | .one::r,o::rest,st,s,K,h,hk=>by
  simp only[Ft,jzd]at h;obtain⟨s1,h1,h2⟩:=h;obtain⟨segs',hs,hw⟩:=M5 hc hA h2 hk;exact⟨.one::segs',fun pl lo=>by simp only[D1,hs],Ud hc hA h1 hw⟩
 | .one::_,[],_,_,_,h,_=>by simp[Ft]at h
 | .any ts ds is::r,rest,st,s,K,h,hk=>by
  simp only[Ft,jzd]at h;obtain⟨p,h1,h2⟩:=h;obtain⟨segs',hs,hw⟩:=M5 hc hA h2 hk;exact⟨.any (QA st ts) ds is::segs',fun pl lo=>by simp only[D1,hs],P9 hc hA (fin:=fun rest' s=>DX P T ops segs' rest' K s) h1 hw⟩
theorem M2{α:Type}(L:List (Nat×α)): ∀l,Aw L (HV L l)
 |[]=>trivial
 |(k,v)::r=>by
  unfold HV;split
  ·rename_i w h
   exact⟨h,M2 L r⟩
  ·exact M2 L r
theorem Hs(l:List Nat)(s:St):(Gb l s).le s:=⟨Mg _ _,M2 _ _⟩
theorem jfT{l:List Nat}{f:St→Option (Exit×St)}{body:St→Bc→Prop}(hf: ∀st p Q,f st=some p→Q p.1 p.2→body st Q){n:Nat}{st:St}{p:Exit×St}{Q:Bc}(h:HS l f n (Gb l st)=some p)(hk:Q p.1 p.2):HT body st Q:=by
 refine⟨fun s m=>HS l f m s=some p,[],⟨Gb l st,n,Hs l st,h⟩,fun s m hI=> ?_⟩
 cases m with
 |zero=>cases hI
 |succ m=>
  simp only[HS,jzd]at hI;obtain⟨⟨e,q⟩,hq,hI⟩:=hI;refine hf s (e,q) _ hq ?_;cases e with
  |normal=>
   simp only[Ke]at hI;exact⟨Gb l q,m,Hs l q,hI,Nat.lt_succ_self m⟩
  |_=>
   simp only[Option.some.injEq]at hI;subst hI;exact hk
theorem ND(hc: ∀g aa r,cal g aa=some r→CallsF P g aa r)(hA: ∀g sz n cs aa m cs',calA g sz n cs aa=some (m,cs')→CallsA P g sz n cs aa m cs'){pln:FE}{l:List Nat}{N:Nat}: ∀(c:Code),B2 pln c=true→ ∀(st:St) (p:Exit×St) (Q:Bc),
  evC T cal sA calA pln l N c st=some p→Q p.1 p.2→A8 P T c st Q:=by
 intro c
 induction c with
 |skip=>
  intro _ st p Q h hk;simp only[evC,Option.some.injEq]at h;subst h;exact hk
 |region id ops draw=>
  intro hp st p Q h hk;simp only[evC]at h;unfold A8 J4;cases draw with
  |true=>
   simp only[if_true,jzd,Ke,Option.some.injEq]at h ⊢;obtain⟨x,hx,s,hs,rfl⟩:=h;simp only[B2,Bool.not_true,Bool.false_or,hx]at hp;obtain⟨segs',he,hw⟩:=M5 hc hA hs hk;refine At x.1 segs' ?_ hw;simp only[KN,he]at hp ⊢;exact hp
  |false=>
   simp only[Bool.false_eq_true,if_false,jzd,Ke,Option.some.injEq]at h ⊢;obtain⟨s,hs,rfl⟩:=h;exact QU hc hA hs hk
 |seq a b iha ihb=>
  intro hp st p Q h hk;simp only[B2,AC]at hp;simp only[evC,jzd]at h;obtain⟨⟨e,s⟩,h1,h2⟩:=h;refine iha hp.1 st (e,s) _ h1 ?_;cases e with
  |normal=>exact ihb hp.2 s p Q h2 hk
  |_=>
   simp only[Option.some.injEq]at h2;subst h2;exact hk
 |cond c x y ihx ihy=>
  intro hp st p Q h hk;simp only[B2,AC]at hp;simp only[evC]at h
  show Fd (st.evB c) st (A8 P T x) (A8 P T y) Q
  split at h
  ·rename_i hb
   rw[hb]
   exact⟨fun _=>ihx hp.1 st p Q h hk,fun e=>by cases e⟩
  ·rename_i hb
   rw[hb]
   exact⟨fun e=>by(cases e),fun _=>ihy hp.2 st p Q h hk⟩
  ·cases h
 |block id c ih=>
  intro hp st p Q h hk;simp only[B2]at hp;simp only[evC,jze]at h;obtain⟨⟨e,s⟩,h1,h2⟩:=h;refine ih hp st (e,s) _ h1 ?_;cases e with
  |exit j=>
   simp only at h2
   show if j=id then Q .normal s else Q (.exit j) s
   by_cases hj:j=id
   ·rw[if_pos hj]at h2 ⊢
    subst h2;exact hk
   ·rw[if_neg hj]at h2 ⊢
    subst h2;exact hk
  |_=>
   simp only at h2;subst h2;exact hk
 |loop c ih=>
  intro hp st p Q h hk;simp only[B2]at hp;simp only[evC,Ke]at h;exact jfT (fun st p Q h hk=>ih hp st p Q h hk) h hk
 |exit id=>
  intro _ st p Q h hk;simp only[evC,Option.some.injEq]at h;subst h;exact hk
 |ret=>
  intro _ st p Q h hk;simp only[evC,Option.some.injEq]at h;subst h;exact hk
 |_=>
  intro _ st p Q h hk;simp only[evC]at h;cases h
theorem Um{st:St}{pure:Bool}{c:C}{r:RC}(h:Jr st pure c=some r):fitC st pure c r∧r.rows=[]:=by
 unfold Jr at h;split at h
 ·cases h
 ·rename_i hp
  simp only[jze]at h;obtain⟨x,hx,rfl⟩:=h;refine⟨?_,rfl⟩;have:(pure=true→c.id? =none)∧st.cD c=some x:=⟨fun e=>by
   cases hi:c.id? with
   |none=>rfl
   |some i=>exact absurd ⟨e,by rw[hi];rfl⟩ hp,hx⟩
  cases c<;>exact this
theorem Jf{α β:Type}{f:α→Option β}{r:α→β→Prop}{q:β→Prop}(hf: ∀a b,f a=some b→r a b∧q b): ∀{l:List α} {m:List β},l.mapM f=some m→fitL r l m∧ ∀b∈m,q b
 |[],m,h=>by
  simp only[List.mapM_nil,Option.pure_def,Option.some.injEq]at h;subst h;exact⟨trivial,by simp⟩
 |a::l,m,h=>by
  simp only[List.mapM_cons,Option.pure_def,Option.bind_eq_bind,jzd,Option.some.injEq]at h;obtain⟨b,hb,m',hm,rfl⟩:=h;obtain⟨h1,h2⟩:=hf a b hb;obtain⟨h3,h4⟩:=Jf hf hm;exact⟨⟨h1,h3⟩,fun x hx=>by
   rcases jzn.1 hx with rfl|hx
   ·exact h2
   ·exact h4 x hx⟩
theorem Mu{st:St}{pure:Bool}{u:U}{r:RU}(h:E7 st pure u=some r):fitU st pure u r∧r.rows=[]:=by
 unfold E7 at h;cases u with
 |c x=>
  simp only[jze]at h;obtain⟨y,hy,rfl⟩:=h;exact Um hy
 |agg cs=>
  simp only[jze]at h;obtain⟨y,hy,rfl⟩:=h;obtain⟨h1,h2⟩:=Jf (r:=fitC st pure) (q:=fun r=>r.rows=[]) (fun a b e=>Um e) hy
  refine⟨h1,?_⟩
  show y.flatMap RC.rows=[]
  rw[List.flatMap_eq_nil_iff]
  exact h2
 |clo f cs=>cases h
theorem RK{st:St}{c:C}{r:RC}(h:Jn st c=some r):fitC st true c r∧r.rows.length=1:=by
 unfold Jn at h;split at h
 ·rename_i i n
  split at h
  ·rename_i sz cs hl
   split at h
   ·rename_i hlen
    cases h;exact⟨⟨rfl,hl,hlen⟩,rfl⟩
   ·cases h
  ·cases h
 ·cases h
theorem N0{st:St}{v:V}{r:R}(h:LF st v=some r)(hl:r.rows.length≤1):fitV st (!r.rows.isEmpty) v r:=by
 have data: ∀{u:U} {x:RU},E7 st false u=some x→fitV st (!(R.u x).rows.isEmpty) (.u u) (.u x):=fun h=>by
  obtain⟨h1,h2⟩:=Mu h
  have:(R.u _).rows=[]:=h2
  rw[this]
  exact h1
 have datas: ∀{us:List U} {xs:List RU},us.mapM (E7 st false)=some xs→fitV st (!(R.tup xs).rows.isEmpty) (.tup us) (.tup xs):=fun h=>by
  obtain⟨h1,h2⟩:=Jf (r:=fitU st false) (q:=fun r=>r.rows=[]) (fun a b e=>Mu e) h
  have:(R.tup _).rows=[]:=List.flatMap_eq_nil_iff.2 h2
  rw[this]
  exact h1
 unfold LF at h;split at h
 ·rename_i x
  split at h
  ·simp only[jze]at h;obtain⟨y,hy,rfl⟩:=h;obtain⟨h1,h2⟩:=RK hy;have h3:(R.u (RU.c y)).rows=y.rows:=rfl;rw[h3];have:(!y.rows.isEmpty)=true:=by
    cases hr:y.rows with
    |nil=>rw[hr]at h2;cases h2
    |cons a l=>rfl
   rw[this]
   exact h1
  ·simp only[jze]at h;obtain⟨y,hy,rfl⟩:=h;exact data hy
 ·simp only[jze]at h;obtain⟨y,hy,rfl⟩:=h;exact data hy
 ·rename_i x us
  split at h
  ·simp only[jzd,jze]at h;obtain⟨y,hy,xs,hxs,rfl⟩:=h;obtain⟨h1,h2⟩:=RK hy;obtain⟨h3,h4⟩:=Jf (r:=fitU st true) (q:=fun r=>r.rows=[]) (fun a b e=>Mu e) hxs
   have:(!(R.tup (RU.c y::xs)).rows.isEmpty)=true:=by
    have e:(R.tup (RU.c y::xs)).rows=y.rows++xs.flatMap RU.rows:=rfl
    rw[e]
    cases hr:y.rows with
    |nil=>rw[hr]at h2;cases h2
    |cons a l=>rfl
   rw[this]
   exact⟨h1,h3⟩
  ·simp only[jze]at h;obtain⟨y,hy,rfl⟩:=h;exact datas hy
 ·simp only[jze]at h;obtain⟨y,hy,rfl⟩:=h;exact datas hy
 ·cases h
end
end Go.Va
