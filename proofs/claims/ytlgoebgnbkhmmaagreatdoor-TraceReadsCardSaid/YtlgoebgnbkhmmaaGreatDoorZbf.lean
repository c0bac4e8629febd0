/- a part of the proof -/
import Derived.Test.YtlgoebgnbkhmmaaGreatDoorZak
import Derived.Test.YtlgoebgnbkhmmaaGreatDoorZbe
import Derived.Test.YtlgoebgnbkhmmaaGreatDoorZbd
set_option linter.all false
namespace Go.Va
def BO{α:Type}(n:Nat)(k:Nat→α):α:=Nat.rec (motive:=fun _=>α) (k 0) (fun p _=>k (p+1)) n
theorem BS{α:Type}(n:Nat)(k:Nat→α):BO n k=k n:=by cases n<;>rfl
def Jx{α:Type}:Int→(Int→α)→α
 | .ofNat n,k=>BO n fun n=>k (.ofNat n)
 | .negSucc n,k=>BO n fun n=>k (.negSucc n)
theorem P9{α:Type}(n:Int)(k:Int→α):Jx n k=k n:=by cases n<;>simp[Jx,BS]
def Ju{α:Type}:Bool→(Bool→α)→α
 |true,k=>k true
 |false,k=>k false
theorem MQ{α:Type}(b:Bool)(k:Bool→α):Ju b k=k b:=by cases b<;>rfl
def QQ{α:Type}(x:IntKind)(k:IntKind→α):α:=match x with| .i8=>k .i8| .i16=>k .i16| .i32=>k .i32| .i64=>k .i64| .u8=>k .u8| .u16=>k .u16| .u32=>k .u32| .u64=>k .u64
theorem jiB{α:Type}(x:IntKind)(k:IntKind→α):QQ x k=k x:=by cases x<;>rfl
mutual
def fD{α:Type}:D→(D→α)→α
 | .int q n,k=>QQ q fun q=>Jx n fun n=>k (.int q n)
 | .bool b,k=>Ju b fun b=>k (.bool b)
 | .str s,k=>k (.str s)
 | .slice n cs,k=>BO n fun n=>De cs fun cs=>k (.slice n cs)
 | .ref cs,k=>De cs fun cs=>k (.ref cs)
 | .fn f cs,k=>BO f fun f=>De cs fun cs=>k (.fn f cs)
 | .nilFn,k=>k .nilFn
 | .nilPtr,k=>k .nilPtr
 | .iface t cs,k=>BO t fun t=>De cs fun cs=>k (.iface t cs)
 | .lit x,k=>k (.lit x)
 | .any,k=>k .any
 | .nn,k=>k .nn
def De{α:Type}:List D→(List D→α)→α
 |[],k=>k []
 |x::r,k=>fD x fun x=>De r fun r=>k (x::r)
end
mutual
theorem J3{α:Type}: ∀(x:D) (k:D→α),fD x k=k x
 | .int q n,k=>by simp only[fD,jiB,P9]
 | .bool b,k=>by simp only[fD,MQ]
 | .str s,k=>by simp only[fD]
 | .slice n cs,k=>by simp only[fD,BS,EX cs]
 | .ref cs,k=>by simp only[fD,EX cs]
 | .fn f cs,k=>by simp only[fD,BS,EX cs]
 | .nilFn,k=>by simp only[fD]
 | .nilPtr,k=>by simp only[fD]
 | .iface t cs,k=>by simp only[fD,BS,EX cs]
 | .lit x,k=>by simp only[fD]
 | .any,k=>by simp only[fD]
 | .nn,k=>by simp only[fD]
theorem EX{α:Type}: ∀(l:List D) (k:List D→α),De l k=k l
 |[],k=>by simp only[De]
 |x::r,k=>by simp only[De,J3 x,EX r]
end
def Cg{α β:Type}(f:β→(β→α)→α):List β→(List β→α)→α
 |[],k=>k []
 |x::r,k=>f x fun x=>Cg f r fun r=>k (x::r)
theorem Cy{α β:Type}{f:β→(β→α)→α}(hf: ∀x k,f x k=k x): ∀(l:List β) (k:List β→α),Cg f l k=k l
 |[],k=>rfl
 |x::r,k=>by simp only[Cg,hf,Cy hf r]
def HE{α:Type}(s:St)(k:St→α):α:=k s
theorem Jf{α:Type}(s:St)(k:St→α):HE s k=k s:=rfl
def fA{α:Type}:A→(A→α)→α
 | .c x,k=>fD x fun x=>k (.c x)
 | .agg cs,k=>De cs fun cs=>k (.agg cs)
theorem Qt{α:Type}(x:A)(k:A→α):fA x k=k x:=by cases x<;>simp only[fA,J3,EX]
def Ik{α:Type}:RC→(RC→α)→α
 | .d x,k=>fD x fun x=>k (.d x)
 | .own a b cs,k=>BO a fun a=>BO b fun b=>De cs fun cs=>k (.own a b cs)
theorem Uh{α:Type}(x:RC)(k:RC→α):Ik x k=k x:=by cases x<;>simp only[Ik,J3,BS,EX]
def Ii{α:Type}:RU→(RU→α)→α
 | .c x,k=>Ik x fun x=>k (.c x)
 | .agg cs,k=>Cg Ik cs fun cs=>k (.agg cs)
theorem RN{α:Type}(x:RU)(k:RU→α):Ii x k=k x:=by cases x<;>simp only[Ii,Uh,Cy (f:=Ik) Uh]
def fR{α:Type}:R→(R→α)→α
 | .u x,k=>Ii x fun x=>k (.u x)
 | .tup xs,k=>Cg Ii xs fun xs=>k (.tup xs)
theorem jf9{α:Type}(x:R)(k:R→α):fR x k=k x:=by cases x<;>simp only[fR,RN,Cy (f:=Ii) RN]
def IR{α:Type}(L:List (Nat×α)):List Nat→List (Nat×α)
 |[]=>[]
 |k::r=>match lk k L with|some v=>(k,v)::IR L r|none=>IR L r
theorem NJ{α:Type}(L:List (Nat×α)): ∀l,AW L (IR L l)
 |[]=>trivial
 |k::r=>by
  unfold IR;split
  ·rename_i v h
   exact⟨h,NJ L r⟩
  ·exact NJ L r
structure Cal2 where
 a:FuncId→Nat→Nat→List D→List A→Option (Nat×List D)
 h:FuncId→List U→List (Nat×Blk)→List C→Option (List C×List (Nat×Blk)×V)
structure Sh2 where
 sz:FuncId→Option Nat
 sh:FuncId→Bool
structure CalOk (P:Program) (c:Cal2):Prop where
 a: ∀g sz n cs aa m cs',c.a g sz n cs aa=some (m,cs')→CallsA P g sz n cs aa m cs'
 h: ∀g us h gs gs' h' v,c.h g us h gs=some (gs',h',v)→GJ P g us gs gs' h h' v
def fC{α:Type}:C→(C→α)→α
 | .d x,k=>fD x fun x=>k (.d x)
 | .nl,k=>k .nl
 | .sl i o n,k=>BO i fun i=>BO o fun o=>BO n fun n=>k (.sl i o n)
 | .ptr i o,k=>BO i fun i=>BO o fun o=>k (.ptr i o)
 | .bad,k=>k .bad
 | .mp q i,k=>Ju q fun q=>BO i fun i=>k (.mp q i)
theorem Fp{α:Type}(c:C)(k:C→α):fC c k=k c:=by cases c<;>simp only[fC,J3,BS,MQ]
def fU{α:Type}:U→(U→α)→α
 | .c x,k=>fC x fun x=>k (.c x)
 | .agg cs,k=>Cg fC cs fun cs=>k (.agg cs)
 | .clo f cs,k=>BO f fun f=>Cg fC cs fun cs=>k (.clo f cs)
theorem Nj{α:Type}(u:U)(k:U→α):fU u k=k u:=by cases u<;>simp only[fU,Fp,BS,Cy (f:=fC) Fp]
def KO{α:Type}:List (Ky×Int)→(List (Ky×Int)→α)→α
 |[],k=>k []
 |(s,n)::r,k=>Jx n fun n=>KO r fun r=>k ((s,n)::r)
theorem NV{α:Type}: ∀(l:List (Ky×Int)) (k:List (Ky×Int)→α),KO l k=k l
 |[],k=>rfl
 |(s,n)::r,k=>by simp only[KO,P9,NV r]
def Ei{α:Type}:Nat×Blk→(Nat×Blk→α)→α
 |(i,.row sz cs app),k=>BO i fun i=>BO sz fun sz=>De cs fun cs=>Ju app fun app=>k (i,.row sz cs app)
 |(i,.box cs),k=>BO i fun i=>Cg fC cs fun cs=>k (i,.box cs)
 |(i,.fbox f cs),k=>BO i fun i=>BO f fun f=>Cg fC cs fun cs=>k (i,.fbox f cs)
 |(i,.mp (.mp es)),k=>BO i fun i=>KO es fun es=>k (i,.mp (.mp es))
 |(i,.mp (.it s p)),k=>BO i fun i=>BO p fun p=>k (i,.mp (.it s p))
 |(i,.gh cs),k=>BO i fun i=>Cg fC cs fun cs=>k (i,.gh cs)
theorem Ol{α:Type}(b:Nat×Blk)(k:Nat×Blk→α):Ei b k=k b:=by
 obtain⟨i,b⟩:=b
 cases b with
 |row=>simp only[Ei,BS,EX,MQ]
 |box=>simp only[Ei,BS,Cy (f:=fC) Fp]
 |fbox=>simp only[Ei,BS,Cy (f:=fC) Fp]
 |mp x=>cases x<;>simp only[Ei,BS,NV]
 |gh=>simp only[Ei,BS,Cy (f:=fC) Fp]
def fV{α:Type}:V→(V→α)→α
 | .u u,k=>fU u fun u=>k (.u u)
 | .tup us,k=>Cg fU us fun us=>k (.tup us)
 | .tr x ys,k=>k (.tr x ys)
theorem ji4{α:Type}(v:V)(k:V→α):fV v k=k v:=by cases v<;>simp only[fV,Nj,Cy (f:=fU) Nj]
section
variable (T:AH) (cal:FuncId→List A→Option R) (sA:Sh2) (calA:Cal2)
def Mh(dst:Option Nat)(st:St)(g sz:Nat)(us:List U):Option St:=
 match us,dst with
 | .c .nl::us',some d=>let fz:=st.reachU us';(us'.mapM (U.toA fz st.h)).bind fun aa=>(calA.a g sz 0 [] aa).map fun r=>(((((st.freeze fz).new d (.row sz [] true)).drop d).new d (.row sz r.2 true)).put (some d) (vC (.sl d 0 r.1)))
 | .c (.sl k 0 n)::us',some d=>
  let fz:=(st.reachU us').filter fun i=>i !=k
  let s1:=st.freeze fz
  match lk k s1.h with
  |some (.row z cs true)=>if z=sz then (us'.mapM (U.toA fz st.h)).bind fun aa=>(calA.a g sz n cs aa).map fun r=>((s1.drop k).new d (.row sz r.2 true)).put (some d) (vC (.sl d 0 r.1)) else none
  |_=>none
 |_,_=>none
def KC(us:List U):List Nat:=us.flatMap fun u=>u.all.filterMap C.id?
def clos(h:List (Nat×Blk)):Nat→List Nat→List Nat→List Nat
 |0,_,seen=>seen
 |_+1,[],seen=>seen
 |n+1,i::r,seen=>if seen.contains i then clos h n r seen else match lk i h with
  |some (.box bs)=>clos h n (bs.filterMap C.id? ++r) (i::seen)
  |some (.fbox _ bs)=>clos h n (bs.filterMap C.id? ++r) (i::seen)
  |some _=>clos h n r (i::seen)
  |none=>clos h n r seen
def Gx(h:List (Nat×Blk))(all:List Nat):List Nat→List (Nat×Blk)
 |[]=>[]
 |i::r=>match lk i h with|some b=>(i,b.on (B1 all))::Gx h all r|none=>Gx h all r
def ML:Nat:=100000
def Ek(h:List (Nat×Blk)):Nat:=h.foldl (fun m e=>if Nat.blt e.1 Cv&&Nat.ble m e.1 then e.1 else m) ML
def Sv(h:List (Nat×Blk)):List Nat:=match lk (Ek h) h with|some _=>[Ek h]|none=>[]
def EB(ids:List Nat):List C→List C→List C
 |[],acc=>acc
 |c::r,acc=>match c.id? with
  |some i=>if ids.contains i then (if acc.any (C.same c) then EB ids r acc else EB ids r (c::acc)) else EB ids r acc
  |none=>EB ids r acc
def I0(ids:List Nat):List U→List C→List C
 |[],acc=>acc
 | .c x::r,acc=>I0 ids r (EB ids [x] acc)
 | .agg cs::r,acc=>I0 ids r (EB ids cs acc)
 | .clo _ cs::r,acc=>I0 ids r (EB ids cs acc)
def Jq(ids:List Nat):List (Nat×V)→List C→List C
 |[],acc=>acc
 |(_,.u u)::r,acc=>Jq ids r (I0 ids [u] acc)
 |(_,.tup us)::r,acc=>Jq ids r (I0 ids us acc)
 |(_,.tr _ _)::r,acc=>Jq ids r acc
def Hu(ids:List Nat):List (Nat×Blk)→List C→List C
 |[],acc=>acc
 |(i,b)::r,acc=>if ids.contains i then Hu ids r acc else match b with
  | .box cs=>Hu ids r (EB ids cs acc)
  | .fbox _ cs=>Hu ids r (EB ids cs acc)
  | .gh cs=>Hu ids r (EB ids cs acc)
  |_=>Hu ids r acc
def jen:V→Bool
 | .tr _ _=>false
 |_=>true
def Nt(dst:Option Nat)(st:St)(g:FuncId)(us:List U):Option St:=
 let ids:=clos st.h 1000 (KC us++Sv st.h) []
 if ids.all (fun i=>(lk i st.h).isSome)=true then
  Cg fC (Hu ids st.h (Jq ids st.t [])) fun gs=>(calA.h g (us.map (U.on (B1 ids))) (Gx st.h ids ids) gs).bind fun r=>
   if jen r.2.2=true then some (st.backH dst ids ((r.2.1.map (·.1)).filter fun i=> !ids.contains i) gs r.1 r.2.1 r.2.2) else none
 else none
def I7(dst:Option Nat)(st:St)(g:FuncId)(caps:List D)(us:List U):Option St:=
 match sA.sz g,caps with
 |some sz,[]=>Mh calA dst st g sz us
 |_,_=>if sA.sh g=true∧caps=[] then Nt calA dst st g us else (st.argsW (st.reachU us) us caps).bind fun aa=>(cal g aa).map fun r=>st.back dst (st.reachU us) r
def PU(dst:Option Nat)(st:St)(us:List U)(u:U):Option St:=
 match u with
 | .c (.d (.fn g caps))=>I7 cal sA calA dst st g caps us
 | .clo g cs=>I7 cal sA calA dst st g [] (us++cs.map .c)
 |_=>none
def JZ(o:Oper)(st:St):Option St:=
 match o.op with
 | .call { callee:= .value f,args,.. }=>(st.evU f).bind fun u=>(args.toList.mapM st.evU).bind fun us=>PU cal sA calA o.dst st us u
 |_=>DH T o st
def KR(ops:List Oper)(o:Oper)(st:St):Option St:=
 match o.guard with
 |none=>JZ T cal sA calA o st
 |some (j,want)=>
  match (ops[j]?).bind (·.dst)with
  |some d=>
   (match lk d st.t with
   |some (.u (.c (.d (.bool b))))=>if b=want then JZ T cal sA calA o (st.put (some d) (vB want)) else some ((st.put (some d) (vB !want)).put o.dst (.tup []))
   |some (.tup [])=>some (st.put o.dst (.tup []))
   |_=>none)
  |none=>none
def H2(ops:List Oper):List Oper→St→Option St
 |[],st=>some st
 |o::r,st=>(KR T cal sA calA ops o st).bind (H2 ops r)
def JW(d:Option Nat)(E:St)(g:FuncId)(caps:List D)(us:List U):Option Eff:=
 (E.argsW (E.reachU us) us caps).bind fun aa=>(cal g aa).bind fun r=>if r.flat=true∨FY us=true then some (Ec d r) else none
def Kh(o:Oper)(E:St):Option Eff:=
 match o.op with
 | .call { callee:= .value f,args,.. }=>(E.evU f).bind fun u=>(args.toList.mapM E.evU).bind fun us=>
  (match u with
  | .c (.d (.fn g caps))=>JW cal o.dst E g caps us
  | .clo g cs=>JW cal o.dst E g [] (us++cs.map .c)
  |_=>none)
 |_=>effOp T o E
def JL(want:Bool)(v:Option V)(k1:Option Eff):Option Eff:=
 match v with
 |some (.u (.c (.d (.bool b))))=>if b=want then k1 else some (.val (.tup []))
 |some (.tup [])=>some (.val (.tup []))
 |_=>none
def JH(ops:List Oper)(o:Oper)(E:St):Option Eff:=
 match o.guard with
 |none=>Kh T cal o E
 |some (j,want)=>match (ops[j]?).bind (·.dst)with|some d=>JL want (lk d E.t) (Kh T cal o E)|none=>none
def K4(ops:List Oper)(o:Oper)(E:St):Option Eff:=
 match o.guard with
 |none=>GG T o E
 |some (j,want)=>match (ops[j]?).bind (·.dst)with|some d=>JL want (lk d E.t) (GG T o E)|none=>none
def NR(o:Oper)(E:St):Option Eff:=
 match o.guard,o.op with
 |none,.call { callee:= .value f,args,.. }=>(E.evU f).bind fun u=>(args.toList.mapM E.evU).bind fun us=>
  (match u with
  | .c (.d (.fn g []))=>(sA.sz g).bind fun sz=>(match us,o.dst with
   | .c (.sl b 0 n)::us',some d=>(match lk b E.h with
    |some (.row z cs true)=>if z=sz then (us'.mapM (U.toA [] E.h)).bind fun aa=>(calA.a g sz n cs aa).map fun r=> .app b (.row sz r.2 true) (vC (.sl d 0 r.1)) else none
    |_=>none)
   | .c .nl::us',some d=>(us'.mapM (U.toA [] E.h)).bind fun aa=>(calA.a g sz 0 [] aa).map fun r=> .new (.row sz r.2 true) (vC (.sl d 0 r.1))
   |_,_=>none)
  |_=>none)
 |_,_=>none
def TS(d:Option Nat)(x:Eff):Option Eff:=
 match x with
 | .new (.row sz ds true) (.u (.c (.sl e 0 len)))=>if d=some e∧ds.length=len*sz then some (.dat (.slice len ds)) else none
 | .val v=>some (.val v)
 |_=>none
def Hv(ops:List Oper):List DI→List Oper→St→Option (List Oper×St)
 |[],rest,S=>some (rest,S)
 |i::is,o::r,S=>
  (if i.k=4 then K4 T ops o (seen i S) else if i.k=5 then NR sA calA o (seen i S) else if i.k=6 then (JH T cal ops o (seen i S)).bind (TS o.dst) else JH T cal ops o (seen i S)).bind fun x=>
   if DF i (o.dst.getD 0) x=true then Hv ops is r (L9 o.dst x S) else none
 |_::_,[],_=>none
def Rr(st:St)(ts:List Nat):List Nat:=(ts.flatMap fun t=>match lk t st.t with|some (.u u)=>DZ st.h 5 u.all|_=>[]).filter fun i=>match lk i st.h with|some (.row ..)=>true|_=>false
def GQ(f:Nat→Option (List St)):List Nat→Option (List St)
 |[]=>some []
 |i::r=>(f i).bind fun a=>(GQ f r).map fun b=>a++b
def FR(ops seg:List Oper)(pl:List (List Nat)):Nat→List Nat→St→Option (List St)
 |0,_,st=>some [st]
 |n+1,L,st=>GQ (fun i=>(seg[i]?).bind fun o=>(KR T cal sA calA ops o st).bind fun s=>FR ops seg pl n (i::L) s) ((List.range seg.length).filter fun i=> !L.contains i&&(pl.getD i []).all (L.contains ·))
def Gg{α:Type}(e:α→α→Bool)(f:St→List (Nat×α))(ss:List St)(l:List (Nat×α)):List (Nat×α):=l.filter fun x=>ss.all fun s=>match lk x.1 (f s)with|some v=>e v x.2|none=>false
def Fm(ops:List Oper):List Seg→List Oper→St→Option St
 |[],_,st=>some st
 | .one::r,o::rest,st=>(KR T cal sA calA ops o st).bind fun s=>Fm ops r rest s
 | .one::_,[],_=>none
 | .rn l::r,rest,st=>Fm ops r rest (rns l st)
 | .all pl::r,rest,st=>(FR T cal sA calA ops (rest.take pl.length) pl pl.length [] st).bind fun ss=>match ss with
  |[]=>none
  |s1::_=>Fm ops r (rest.drop pl.length) ⟨Gg Mx St.t ss s1.t,Gg MP St.h ss s1.h⟩
 | .any ts ds is::r,rest,st=>(Hv T cal sA calA ops is rest (purges ds (st.freeze (Rr st ts)))).bind fun p=>Fm ops r p.1 p.2
def I4{α:Type}(L:List (Nat×α)):List (Nat×α)→List (Nat×α)
 |[]=>[]
 |(k,_)::r=>match lk k L with
  |some v=>(k,v)::I4 L r
  |none=>I4 L r
def Hj(l:List Nat)(s:St):St:=⟨IR s.t l,I4 s.h s.h⟩
def HF(l:List Nat)(f:St→Option (Exit×St)):Nat→St→Option (Exit×St)
 |0,_=>none
 |n+1,st=>(f st).bind fun p=>match p.1 with| .normal=>HE (Hj l p.2) fun s=>HF l f n s|_=>some p
abbrev HA:=Nat→Option (List (List Nat)×List Seg)
def evC(pln:HA)(l:List Nat)(N:Nat):Code→St→Option (Exit×St)
 | .skip,st=>some (.normal,st)
 | .region id ops draw,st=>
  if draw then (pln id).bind fun p=>(Fm T cal sA calA ops.toList p.2 ops.toList st).bind fun s=>HE s fun s=>some (.normal,s)
  else (H2 T cal sA calA ops.toList ops.toList st).bind fun s=>HE s fun s=>some (.normal,s)
 | .seq a b,st=>(evC pln l N a st).bind fun p=>match p.1 with| .normal=>evC pln l N b p.2|_=>some p
 | .cond c x y,st=>match st.evB c with|some true=>evC pln l N x st|some false=>evC pln l N y st|none=>none
 | .block id c,st=>(evC pln l N c st).map fun p=>match p.1 with| .exit j=>if j=id then (.normal,p.2) else p|_=>p
 | .loop c,st=>HE (Hj l st) fun s=>HF l (evC pln l N c) N s
 | .exit id,st=>some (.exit id,st)
 | .ret,st=>some (.ret,st)
 | .scope c,st=>(evC pln l N c st).bind fun p=>match p.1 with| .goto _=>none|_=>some p
 | .label _,st=>some (.normal,st)
 |_,_=>none
def Cq(pln:HA):Code→Bool
 | .region id ops draw=> !draw||(match pln id with|some p=>Jy ops.toList p.1 p.2|none=>true)
 | .seq a b=>Cq pln a&&Cq pln b
 | .cond _ x y=>Cq pln x&&Cq pln y
 | .block _ c=>Cq pln c
 | .loop c=>Cq pln c
 | .scope c=>Cq pln c
 |_=>true
def Ur(st:St):C→Bool
 | .sl i 0 n=>(match lk i st.h with|some (.row sz cs true)=>decide (cs.length=n*sz)|_=>false)
 |_=>false
def I6(st:St)(c:C):Option RC:=
 match c with
 | .sl i 0 n=>(match lk i st.h with|some (.row sz cs true)=>if cs.length=n*sz then some (.own sz n cs) else none|_=>none)
 |_=>none
def KB(st:St)(pure:Bool)(c:C):Option RC:=if pure=true∧c.id?.isSome=true then none else (st.cD c).map .d
def EN(st:St)(pure:Bool):U→Option RU
 | .c x=>(KB st pure x).map .c
 | .agg cs=>(cs.mapM (KB st pure)).map .agg
 | .clo _ _=>none
def NH(st:St)(v:V):Option R:=
 match v with
 | .u (.c x)=>if Ur st x then (I6 st x).map fun r=> .u (.c r) else (EN st false (.c x)).map .u
 | .u u=>(EN st false u).map .u
 | .tup (.c x::us)=>if Ur st x&&us.all (fun u=>u.all.all fun c=>c.id?.isNone) then (I6 st x).bind fun r=>(us.mapM (EN st true)).map fun rs=> .tup (.c r::rs)
  else ((U.c x::us).mapM (EN st false)).map .tup
 | .tup us=>(us.mapM (EN st false)).map .tup
 |_=>none
end
section
variable {P:Program} {T:AH} {cal:FuncId→List A→Option R} {sA:Sh2} {calA:Cal2}
theorem jhb(hA:CalOk P calA){dst:Option Nat}{st s:St}{g sz:Nat}{us:List U}{K:St→Prop}
  (h:Mh calA dst st g sz us=some s) (hk:K s):DM P dst st K g [] us:=by
 unfold Mh at h;split at h
 ·rename_i us' d
  simp only[jzd,jze]at h;obtain⟨aa,haa,r,hr,rfl⟩:=h;exact .inr (.inr (.inr (.inr (.inl (.inr (.inr (.inr (.inr (.inl ⟨rfl,_,sz,r.1,d,r.2,us',aa,rfl,haa,rfl,hA.a _ _ _ _ _ _ _ hr,hk⟩)))))))))
 ·rename_i k n us' d
  simp only at h;split at h
  ·rename_i z cs hl
   split at h
   ·rename_i hz
    subst hz;simp only[jzd,jze]at h;obtain⟨aa,haa,r,hr,rfl⟩:=h;refine .inr (.inr (.inr (.inr (.inl (.inr (.inr (.inr (.inl ⟨rfl,_,k,n,z,r.1,d,cs,r.2,us',aa,rfl,?_,hl,haa,rfl,hA.a _ _ _ _ _ _ _ hr,hk⟩))))))));simp
   ·cases h
  ·cases h
 ·cases h
theorem K3{h:List (Nat×Blk)}{all:List Nat}{i:Nat}{b:Blk}: ∀{l:List Nat},lk i (Gx h all l)=some b→i∈l∧ ∃b0,lk i h=some b0∧b=b0.on (B1 all)
 |[],hb=>by cases hb
 |j::r,hb=>by
  unfold Gx at hb;split at hb
  ·rename_i b0 hl
   by_cases e:i=j
   ·subst e;rw[Bt]at hb;cases hb;exact⟨by simp,b0,hl,rfl⟩
   ·rw[BD e]at hb
    obtain⟨h1,h2⟩:=K3 hb
    exact⟨by simp[h1],h2⟩
  ·obtain⟨h1,h2⟩:=K3 hb
   exact⟨by simp[h1],h2⟩
theorem TR{h:List (Nat×Blk)}{all:List Nat}{i:Nat}(hi:(lk i h).isSome=true): ∀{l:List Nat},i∈l→(lk i (Gx h all l)).isSome=true
 |j::r,hm=>by
  unfold Gx;by_cases e:i=j
  ·subst e;obtain⟨b,hb⟩:=Option.isSome_iff_exists.1 hi;rw[hb]
   dsimp only
   rw[Bt]
   rfl
  ·have hr:=TR (all:=all) hi (l:=r) (by simpa [e]using hm)
   split
   ·rw[BD e];exact hr
   ·exact hr
theorem jjR(hA:CalOk P calA){dst:Option Nat}{st s:St}{g:FuncId}{us:List U}{K:St→Prop}(h:Nt calA dst st g us=some s)(hk:K s):Rx P dst st K g [] us:=by
 unfold Nt at h;simp only at h;generalize clos st.h 1000 (KC us++Sv st.h) []=ids at h;split at h
 case isFalse=>cases h
 rename_i hids
 rw[jzy]at hids
 rw[Cy (f:=fC) Fp,jzd]at h
 obtain⟨r,hr,h⟩:=h
 split at h
 case isFalse=>cases h
 rename_i hnt
 cases h;refine⟨rfl,_,r.1,_,r.2.1,r.2.2,ids,_,hA.h _ _ _ _ _ _ _ hr,fun x q e=>(by rw[e]at hnt;cases hnt),⟨fun i b hb=>K3 hb,fun i hi=>TR (hids i hi) hi,fun i b hb=> ?_⟩,hk⟩
 by_cases e:i∈ids
 ·exact .inl e
 ·refine .inr ?_;rw[List.mem_filter];exact⟨RP hb,by simpa using e⟩
theorem UM(hc: ∀g aa r,cal g aa=some r→CallsF P g aa r)(hA:CalOk P calA){dst:Option Nat}{st s:St}{g:FuncId}{caps:List D}{us:List U}{K:St→Prop}
  (h:I7 cal sA calA dst st g caps us=some s) (hk:K s):DM P dst st K g caps us:=by
 unfold I7 at h;split at h
 ·exact jhb hA h hk
 ·split at h
  case isTrue hs=>
   obtain⟨_,rfl⟩:=hs
   exact .inr (.inr (.inr (.inr (.inl (.inr (.inr (.inr (.inr (.inr (jjR hA h hk))))))))))
  simp only[jzd,jze]at h;obtain⟨aa,haa,r,hr,rfl⟩:=h;exact .inl ⟨aa,haa,r,hc _ _ _ hr,hk⟩
theorem Sa(hc: ∀g aa r,cal g aa=some r→CallsF P g aa r)(hA:CalOk P calA){o:Oper}{st s:St}{K:St→Prop}
  (h:JZ T cal sA calA o st=some s) (hk:K s):wpOp P T o st K:=by
 unfold JZ at h;unfold wpOp;split at h
 ·rename_i f args ts ho
  rw[ho]
  simp only[jzd]at h;obtain⟨u,hu,us,hus,h⟩:=h;refine⟨u,hu,?_⟩;unfold PU at h;unfold Eh;split at h
  ·exact⟨us,hus,UM hc hA h hk⟩
  ·exact⟨us,hus,UM hc hA h hk⟩
  ·cases h
 ·rename_i hno
  split
  ·rename_i f args ts ho
   exact absurd ho (hno f args ts)
  ·exact⟨s,h,hk⟩
theorem QE(hc: ∀g aa r,cal g aa=some r→CallsF P g aa r)(hA:CalOk P calA){ops:List Oper}{o:Oper}{st s:St}{K:St→Prop}
  (h:KR T cal sA calA ops o st=some s) (hk:K s):Ca P T ops o st K:=by
 unfold KR at h;unfold Ca;split at h
 ·rename_i hg
  rw[hg]
  exact Sa hc hA h hk
 ·rename_i j want hg
  rw[hg]
  dsimp only
  split at h
  ·rename_i d hd
   rw[hd]
   dsimp only
   unfold EW;split at h
   ·rename_i b hb
    rw[hb]
    dsimp only
    split at h
    ·rename_i e
     exact⟨fun _=>Sa hc hA h hk,fun e2=>by subst e;cases b<;>cases e2⟩
    ·rename_i e
     refine⟨fun e2=>absurd e2 e,fun _=> ?_⟩
     unfold Gr;cases h;exact hk
   ·rename_i hb
    rw[hb]
    dsimp only
    unfold Gr;cases h;exact hk
   ·cases h
  ·cases h
theorem Tv(hc: ∀g aa r,cal g aa=some r→CallsF P g aa r)(hA:CalOk P calA){ops:List Oper}: ∀{l:List Oper} {st s:St} {K:St→Prop},
  H2 T cal sA calA ops l st=some s→K s→EV P T ops l st K
 |[],st,s,K,h,hk=>by
  simp only[H2,Option.some.injEq]at h;subst h;exact hk
 |o::r,st,s,K,h,hk=>by
  simp only[H2,jzd]at h;obtain⟨s1,h1,h2⟩:=h;exact QE hc hA h1 (Tv hc hA h2 hk)
theorem NU(hc: ∀g aa r,cal g aa=some r→CallsF P g aa r){d:Option Nat}{E:St}{g:FuncId}{caps:List D}{us:List U}{x:Eff}{k:Eff→Prop}(h:JW cal d E g caps us=some x)(hk:k x):GZ P d E k g caps us:=by
 unfold JW at h;simp only[jzd]at h;obtain⟨aa,haa,r,hr,h⟩:=h;split at h
 ·rename_i hf
  cases h;exact⟨aa,haa,r,hc _ _ _ hr,hf,hk⟩
 ·cases h
theorem UW(hc: ∀g aa r,cal g aa=some r→CallsF P g aa r){o:Oper}{E:St}{x:Eff}{k:Eff→Prop}(h:Kh T cal o E=some x)(hk:k x):Bo P T o E k:=by
 unfold Kh at h;unfold Bo;split at h
 ·rename_i f args ts ho
  rw[ho]
  simp only[jzd]at h;obtain⟨u,hu,us,hus,h⟩:=h;refine⟨u,hu,?_⟩;unfold Gl;split at h
  ·exact⟨us,hus,NU hc h hk⟩
  ·exact⟨us,hus,NU hc h hk⟩
  ·cases h
 ·rename_i hno
  split
  ·rename_i f args ts ho
   exact absurd ho (hno f args ts)
  ·exact⟨x,h,hk⟩
theorem RR{want:Bool}{v:Option V}{k1:Option Eff}{x:Eff}{k:Eff→Prop}{K1:Prop}(h1:k1=some x→K1)(h:JL want v k1=some x)(hk:k x):CS want v K1 (k (.val (.tup []))):=by
 unfold JL at h;unfold CS;split at h
 ·rename_i b
  split at h
  ·rename_i e
   exact⟨fun _=>h1 h,fun e2=>by subst e;cases b<;>cases e2⟩
  ·rename_i e
   cases h;exact⟨fun e2=>absurd e2 e,fun _=>hk⟩
 ·cases h;exact hk
 ·cases h
theorem Uq(hc: ∀g aa r,cal g aa=some r→CallsF P g aa r){ops:List Oper}{o:Oper}{E:St}{x:Eff}{k:Eff→Prop}(h:JH T cal ops o E=some x)(hk:k x):CN P T ops o E k:=by
 unfold JH at h;unfold CN;split at h
 ·rename_i hg
  rw[hg]
  exact UW hc h hk
 ·rename_i j want hg
  rw[hg]
  dsimp only
  split at h
  ·rename_i d hd
   rw[hd]
   exact RR (fun e=>UW hc e hk) h hk
  ·cases h
theorem jil{ops:List Oper}{o:Oper}{E:St}{x:Eff}{k:Eff→Prop}(h:K4 T ops o E=some x)(hk:k x):Dx T ops o E k:=by
 unfold K4 at h;unfold Dx;split at h
 ·rename_i hg
  rw[hg]
  exact⟨x,h,hk⟩
 ·rename_i j want hg
  rw[hg]
  dsimp only
  split at h
  ·rename_i d hd
   rw[hd]
   exact RR (fun e=>⟨x,e,hk⟩) h hk
  ·cases h
theorem jeG(hA:CalOk P calA){o:Oper}{E:St}{x:Eff}{k:Eff→Prop}(h:NR sA calA o E=some x)(hk:k x):Fb P o E k:=by
 unfold NR at h;unfold Fb;split at h
 ·rename_i f args ts hg ho
  rw[hg,ho]
  dsimp only
  simp only[jzd]at h;obtain⟨u,hu,us,hus,h⟩:=h;refine⟨u,hu,?_⟩;unfold Qm;split at h
  ·rename_i g
   simp only[jzd]at h;obtain⟨sz,hsz,h⟩:=h;refine⟨us,hus,?_⟩;split at h
   ·rename_i b n us' d hd
    split at h
    ·rename_i z cs hl
     split at h
     ·rename_i hz
      subst hz;simp only[jzd,jze]at h;obtain⟨aa,haa,r,hr,rfl⟩:=h;exact .inl ⟨b,n,z,r.1,d,cs,r.2,us',aa,rfl,hl,haa,hd,hA.a _ _ _ _ _ _ _ hr,hk⟩
     ·cases h
    ·cases h
   ·rename_i us' d hd
    simp only[jzd,jze]at h;obtain⟨aa,haa,r,hr,rfl⟩:=h;exact .inr ⟨sz,r.1,d,r.2,us',aa,rfl,haa,hd,hA.a _ _ _ _ _ _ _ hr,hk⟩
   ·cases h
  ·cases h
 ·cases h
theorem Rq(hc: ∀g aa r,cal g aa=some r→CallsF P g aa r)(hA:CalOk P calA){ops:List Oper}: ∀{is:List DI} {rest:List Oper} {S:St} {p:List Oper×St} {fin:List Oper→St→Prop},
  Hv T cal sA calA ops is rest S=some p→fin p.1 p.2→BH P T ops is rest S fin
 |[],rest,S,p,fin,h,hk=>by
  simp only[Hv,Option.some.injEq]at h;subst h;exact hk
 |i::is,o::r,S,p,fin,h,hk=>by
  simp only[Hv,jzd]at h;obtain⟨x,hx,h⟩:=h;split at h
  case isFalse=>cases h
  rename_i hok
  have hrec:Cu i o.dst S (fun S'=>BH P T ops is r S' fin) x:=⟨hok,Rq hc hA h hk⟩
  simp only[BH];split at hx
  ·rename_i e
   rw[if_pos e]
   exact jil hx hrec
  ·rename_i e
   rw[if_neg e]
   split at hx
   ·rename_i e2
    rw[if_pos e2]
    exact jeG hA hx hrec
   ·rename_i e2
    rw[if_neg e2]
    split at hx
    ·rename_i e3
     rw[if_pos e3]
     rw[jzd]at hx
     obtain⟨x0,hx0,hx⟩:=hx
     refine Uq hc hx0 ?_;unfold TS at hx;split at hx
     ·split at hx
      ·rename_i hh
       cases hx;exact⟨hh,hrec⟩
      ·cases hx
     ·cases hx;exact hrec
     ·cases hx
    ·rename_i e3
     rw[if_neg e3]
     exact Uq hc hx hrec
 |_::_,[],_,_,_,h,_=>by simp[Hv]at h
theorem ON{f:Nat→Option (List St)}: ∀{l:List Nat} {out:List St},GQ f l=some out→ ∀i∈l,∃a,f i=some a∧ ∀s∈a,s∈out
 |[],_,_,i,hi=>by cases hi
 |j::r,out,h,i,hi=>by
  simp only[GQ,jzd,jze]at h;obtain⟨a,h1,b,h2,rfl⟩:=h;rcases jzn.1 hi with rfl|hi
  ·exact⟨a,h1,fun s hs=>List.mem_append_left _ hs⟩
  ·obtain⟨c,h3,h4⟩:=ON h2 i hi
   exact⟨c,h3,fun s hs=>List.mem_append_right _ (h4 s hs)⟩
theorem OT(hc: ∀g aa r,cal g aa=some r→CallsF P g aa r)(hA:CalOk P calA){ops seg:List Oper}{q:List (List Nat)}{K:St→Prop}: ∀{n:Nat} {L:List Nat} {st:St} {ss:List St},
  FR T cal sA calA ops seg q n L st=some ss→(∀s∈ss,K s)→E3 P T ops seg q n L st K
 |0,L,st,ss,h,hk=>by
  simp only[FR,Option.some.injEq]at h;subst h;exact hk st (List.mem_singleton.2 rfl)
 |n+1,L,st,ss,h,hk=>fun i o h1 h2 h3=>by
  simp only[FR]at h;obtain⟨a,h4,h5⟩:=ON h i (List.mem_filter.2 ⟨List.mem_range.2 (jzg.1 h1).1,by rw[h2,h3];rfl⟩)
  simp only[h1,Option.bind_some,jzd]at h4;obtain⟨s,h6,h7⟩:=h4;exact QE hc hA h6 (OT hc hA h7 fun s hs=>hk s (h5 s hs))
theorem G8{α:Type}{e:α→α→Bool}(he: ∀{x y},e x y=true→x=y)(f:St→List (Nat×α))(ss:List St){s:St}(hs:s∈ss): ∀l:List (Nat×α),AW (f s) (Gg e f ss l)
 |[]=>trivial
 |(k,v)::r=>by
  unfold Gg;rw[List.filter_cons];split
  ·rename_i h
   have:=jzy.1 h s hs
   dsimp only at this
   split at this
   ·rename_i u hu
    exact⟨by rw[hu,he this],G8 he f ss hs r⟩
   ·cases this
  ·exact G8 he f ss hs r
theorem LB(hc: ∀g aa r,cal g aa=some r→CallsF P g aa r)(hA:CalOk P calA){ops:List Oper}: ∀{segs:List Seg} {rest:List Oper} {st s:St} {K:St→Prop},
  Fm T cal sA calA ops segs rest st=some s→K s→ ∃segs',(∀pl lo,DT ops pl lo segs'=DT ops pl lo segs)∧DY P T ops segs' rest K st
 |[],_,st,s,K,h,hk=>by
  simp only[Fm,Option.some.injEq]at h;subst h;exact⟨[],fun _ _=>rfl,hk⟩
 | .one::r,o::rest,st,s,K,h,hk=>by
  simp only[Fm,jzd]at h;obtain⟨s1,h1,h2⟩:=h;obtain⟨segs',hs,hw⟩:=LB hc hA h2 hk;exact⟨.one::segs',fun pl lo=>by simp only[DT,hs],QE hc hA h1 hw⟩
 | .one::_,[],_,_,_,h,_=>by simp[Fm]at h
 | .rn l::r,rest,st,s,K,h,hk=>by
  simp only[Fm]at h;obtain⟨segs',hs,hw⟩:=LB hc hA h hk;exact⟨.rn l::segs',fun pl lo=>by simp only[DT,hs],hw⟩
 | .all q::r,rest,st,s,K,h,hk=>by
  simp only[Fm,jzd]at h;obtain⟨ss,h1,h2⟩:=h;split at h2
  ·cases h2
  ·rename_i ss s1 l
   obtain⟨segs',hs,hw⟩:=LB hc hA h2 hk
   exact⟨.all q::segs',fun pl lo=>by simp only[DT,hs],OT hc hA h1 fun s hs=>⟨_,⟨G8 jdL St.t _ hs _,G8 ZR St.h _ hs _⟩,hw⟩⟩
 | .any ts ds is::r,rest,st,s,K,h,hk=>by
  simp only[Fm,jzd]at h;obtain⟨p,h1,h2⟩:=h;obtain⟨segs',hs,hw⟩:=LB hc hA h2 hk;exact⟨.any (Rr st ts) ds is::segs',fun pl lo=>by simp only[DT,hs],Rq hc hA (fin:=fun rest' s=>DY P T ops segs' rest' K s) h1 hw⟩
theorem Mf{α:Type}(L:List (Nat×α)): ∀l,AW L (I4 L l)
 |[]=>trivial
 |(k,v)::r=>by
  unfold I4;split
  ·rename_i w h
   exact⟨h,Mf L r⟩
  ·exact Mf L r
theorem O6(l:List Nat)(s:St):(Hj l s).le s:=⟨NJ _ _,Mf _ _⟩
theorem jf1{l:List Nat}{f:St→Option (Exit×St)}{body:St→Bk→Prop}(hf: ∀st p Q,f st=some p→Q p.1 p.2→body st Q){n:Nat}{st:St}{p:Exit×St}{Q:Bk}(h:HF l f n (Hj l st)=some p)(hk:Q p.1 p.2):HN body st Q:=by
 refine⟨fun s m=>HF l f m s=some p,[],⟨Hj l st,n,O6 l st,h⟩,fun s m hI=> ?_⟩
 cases m with
 |zero=>cases hI
 |succ m=>
  simp only[HF,jzd]at hI;obtain⟨⟨e,q⟩,hq,hI⟩:=hI;refine hf s (e,q) _ hq ?_;cases e with
  |normal=>
   simp only[Jf]at hI;exact⟨Hj l q,m,O6 l q,hI,Nat.lt_succ_self m⟩
  |_=>
   simp only[Option.some.injEq]at hI;subst hI;exact hk
theorem K0(hc: ∀g aa r,cal g aa=some r→CallsF P g aa r)(hA:CalOk P calA){pln:HA}{l:List Nat}{N:Nat}: ∀(c:Code),Cq pln c=true→ ∀(st:St) (p:Exit×St) (Q:Bk),
  evC T cal sA calA pln l N c st=some p→Q p.1 p.2→Bl P T c st Q:=by
 intro c
 induction c with
 |skip=>
  intro _ st p Q h hk;simp only[evC,Option.some.injEq]at h;subst h;exact hk
 |region id ops draw=>
  intro hp st p Q h hk;simp only[evC]at h;unfold Bl JS;cases draw with
  |true=>
   simp only[if_true,jzd,Jf,Option.some.injEq]at h ⊢;obtain⟨x,hx,s,hs,rfl⟩:=h;simp only[Cq,Bool.not_true,Bool.false_or,hx]at hp;obtain⟨segs',he,hw⟩:=LB hc hA hs hk;refine AA x.1 segs' ?_ hw;simp only[Jy,he]at hp ⊢;exact hp
  |false=>
   simp only[Bool.false_eq_true,if_false,jzd,Jf,Option.some.injEq]at h ⊢;obtain⟨s,hs,rfl⟩:=h;exact Tv hc hA hs hk
 |seq a b iha ihb=>
  intro hp st p Q h hk;simp only[Cq,AR]at hp;simp only[evC,jzd]at h;obtain⟨⟨e,s⟩,h1,h2⟩:=h;refine iha hp.1 st (e,s) _ h1 ?_;cases e with
  |normal=>exact ihb hp.2 s p Q h2 hk
  |_=>
   simp only[Option.some.injEq]at h2;subst h2;exact hk
 |cond c x y ihx ihy=>
  intro hp st p Q h hk;simp only[Cq,AR]at hp;simp only[evC]at h
  show Ie (st.evB c) st (Bl P T x) (Bl P T y) Q
  split at h
  ·rename_i hb
   rw[hb]
   exact⟨fun _=>ihx hp.1 st p Q h hk,fun e=>by cases e⟩
  ·rename_i hb
   rw[hb]
   exact⟨fun e=>by(cases e),fun _=>ihy hp.2 st p Q h hk⟩
  ·cases h
 |block id c ih=>
  intro hp st p Q h hk;simp only[Cq]at hp;simp only[evC,jze]at h;obtain⟨⟨e,s⟩,h1,h2⟩:=h;refine ih hp st (e,s) _ h1 ?_;cases e with
  |exit j=>
   simp only at h2
   show if j=id then Q .normal s else Q (.exit j) s
   by_cases hj:j=id
   ·rw[if_pos hj]at h2 ⊢
    subst h2;exact hk
   ·rw[if_neg hj]at h2 ⊢
    subst h2;exact hk
  |_=>
   simp only at h2;subst h2;exact hk
 |loop c ih=>
  intro hp st p Q h hk;simp only[Cq]at hp;simp only[evC,Jf]at h;exact jf1 (fun st p Q h hk=>ih hp st p Q h hk) h hk
 |exit id=>
  intro _ st p Q h hk;simp only[evC,Option.some.injEq]at h;subst h;exact hk
 |ret=>
  intro _ st p Q h hk;simp only[evC,Option.some.injEq]at h;subst h;exact hk
 |scope c ih=>
  intro hp st p Q h hk;simp only[Cq]at hp;simp only[evC,jzd]at h;obtain⟨⟨e,s⟩,h1,h2⟩:=h;refine ih hp st (e,s) _ h1 ?_;cases e with
  |goto j=>cases h2
  |_=>
   simp only[Option.some.injEq]at h2;subst h2;exact hk
 |label j=>
  intro _ st p Q h hk;simp only[evC,Option.some.injEq]at h;subst h;exact hk
 |_=>
  intro _ st p Q h hk;simp only[evC]at h;cases h
theorem PZ{st:St}{pure:Bool}{c:C}{r:RC}(h:KB st pure c=some r):fitC st pure c r∧r.rows=[]:=by
 unfold KB at h;split at h
 ·cases h
 ·rename_i hp
  simp only[jze]at h;obtain⟨x,hx,rfl⟩:=h;refine⟨?_,rfl⟩;have:(pure=true→c.id? =none)∧st.cD c=some x:=⟨fun e=>by
   cases hi:c.id? with
   |none=>rfl
   |some i=>exact absurd ⟨e,by rw[hi];rfl⟩ hp,hx⟩
  cases c<;>exact this
theorem I8{α β:Type}{f:α→Option β}{r:α→β→Prop}{q:β→Prop}(hf: ∀a b,f a=some b→r a b∧q b): ∀{l:List α} {m:List β},l.mapM f=some m→fitL r l m∧ ∀b∈m,q b
 |[],m,h=>by
  simp only[List.mapM_nil,Option.pure_def,Option.some.injEq]at h;subst h;exact⟨trivial,by simp⟩
 |a::l,m,h=>by
  simp only[List.mapM_cons,Option.pure_def,Option.bind_eq_bind,jzd,Option.some.injEq]at h;obtain⟨b,hb,m',hm,rfl⟩:=h;obtain⟨h1,h2⟩:=hf a b hb;obtain⟨h3,h4⟩:=I8 hf hm;exact⟨⟨h1,h3⟩,fun x hx=>by
   rcases jzn.1 hx with rfl|hx
   ·exact h2
   ·exact h4 x hx⟩
theorem KX{st:St}{pure:Bool}{u:U}{r:RU}(h:EN st pure u=some r):fitU st pure u r∧r.rows=[]:=by
 unfold EN at h;cases u with
 |c x=>
  simp only[jze]at h;obtain⟨y,hy,rfl⟩:=h;exact PZ hy
 |agg cs=>
  simp only[jze]at h;obtain⟨y,hy,rfl⟩:=h;obtain⟨h1,h2⟩:=I8 (r:=fitC st pure) (q:=fun r=>r.rows=[]) (fun a b e=>PZ e) hy
  refine⟨h1,?_⟩
  show y.flatMap RC.rows=[]
  rw[List.flatMap_eq_nil_iff]
  exact h2
 |clo f cs=>cases h
theorem S5{st:St}{c:C}{r:RC}(h:I6 st c=some r):fitC st true c r∧r.rows.length=1:=by
 unfold I6 at h;split at h
 ·rename_i i n
  split at h
  ·rename_i sz cs hl
   split at h
   ·rename_i hlen
    cases h;exact⟨⟨rfl,hl,hlen⟩,rfl⟩
   ·cases h
  ·cases h
 ·cases h
theorem jkm{st:St}{v:V}{r:R}(h:NH st v=some r)(hl:r.rows.length≤1):fitV st (!r.rows.isEmpty) v r:=by
 have data: ∀{u:U} {x:RU},EN st false u=some x→fitV st (!(R.u x).rows.isEmpty) (.u u) (.u x):=fun h=>by
  obtain⟨h1,h2⟩:=KX h
  have:(R.u _).rows=[]:=h2
  rw[this]
  exact h1
 have datas: ∀{us:List U} {xs:List RU},us.mapM (EN st false)=some xs→fitV st (!(R.tup xs).rows.isEmpty) (.tup us) (.tup xs):=fun h=>by
  obtain⟨h1,h2⟩:=I8 (r:=fitU st false) (q:=fun r=>r.rows=[]) (fun a b e=>KX e) h
  have:(R.tup _).rows=[]:=List.flatMap_eq_nil_iff.2 h2
  rw[this]
  exact h1
 unfold NH at h;split at h
 ·rename_i x
  split at h
  ·simp only[jze]at h;obtain⟨y,hy,rfl⟩:=h;obtain⟨h1,h2⟩:=S5 hy;have h3:(R.u (RU.c y)).rows=y.rows:=rfl;rw[h3];have:(!y.rows.isEmpty)=true:=by
    cases hr:y.rows with
    |nil=>rw[hr]at h2;cases h2
    |cons a l=>rfl
   rw[this]
   exact h1
  ·simp only[jze]at h;obtain⟨y,hy,rfl⟩:=h;exact data hy
 ·simp only[jze]at h;obtain⟨y,hy,rfl⟩:=h;exact data hy
 ·rename_i x us
  split at h
  ·simp only[jzd,jze]at h;obtain⟨y,hy,xs,hxs,rfl⟩:=h;obtain⟨h1,h2⟩:=S5 hy;obtain⟨h3,h4⟩:=I8 (r:=fitU st true) (q:=fun r=>r.rows=[]) (fun a b e=>KX e) hxs
   have:(!(R.tup (RU.c y::xs)).rows.isEmpty)=true:=by
    have e:(R.tup (RU.c y::xs)).rows=y.rows++xs.flatMap RU.rows:=rfl
    rw[e]
    cases hr:y.rows with
    |nil=>rw[hr]at h2;cases h2
    |cons a l=>rfl
   rw[this]
   exact⟨h1,h3⟩
  ·simp only[jze]at h;obtain⟨y,hy,rfl⟩:=h;exact datas hy
 ·simp only[jze]at h;obtain⟨y,hy,rfl⟩:=h;exact datas hy
 ·cases h
end
def Ip(T:AH):AH:=fun t=>(T t).map fun i=>{ i with trunc:=true }
theorem jd3{P:Program}{T:AH}(h:A5 P T):A5 P (Ip T):=fun t i hi=>by
 unfold Ip at hi;rw[jze]at hi;obtain⟨j,hj,rfl⟩:=hi;exact h t j hj
structure FB where
 fn:Func
 c:Code
 pln:HA
 kl:List Nat:=[]
abbrev FBs:=FuncId→Option FB
def I1(e:Exit):Bool:=match e with| .ret=>true| .normal=>true|_=>false
def Io(mx:Nat):List (Nat×Blk)→List (Nat×Nat)
 |[]=>[]
 |(i,_)::r=>if Nat.blt i ML then (mx+1+i,i)::Io mx r else Io mx r
def UY:Nat:=90000
def jdE(mx i:Nat):Nat:=if Nat.blt i ML then mx+1+i else i
def Gd(mx k:Nat)(seen:List Nat):List U→List (Nat×Nat)
 |[]=>[]
 | .c c::r=>(match c.id? with|some i=>if seen.contains i then Gd mx (k+1) seen r else (UY+k,jdE mx i)::Gd mx (k+1) (i::seen) r|none=>Gd mx (k+1) seen r)
 |_::r=>Gd mx (k+1) seen r
def newR(mx:Nat):List Nat→List (Nat×Nat)
 |[]=>[]
 |k::r=>if Nat.blt k UY then (mx+1+k,k)::newR mx r else newR mx r
def oldR(keys:List Nat):List (Nat×Nat)→List (Nat×Nat)
 |[]=>[]
 |(k,i)::r=>if keys.contains k then (i,k)::oldR keys r else oldR keys r
def Gz(k:Nat):List (Nat×Nat)→Nat
 |[]=>k
 |(a,b)::r=>if Nat.beq b k then a else Gz k r
def FX(h:List (Nat×Blk)):List Nat→List (Nat×Blk)
 |[]=>[]
 |i::r=>match lk i h with|some b=>(i,b)::FX h r|none=>FX h r
def SP:V→List Nat
 | .u u=>KC [u]
 | .tup us=>KC us
 | .tr _ _=>[]
def HL:List (Nat×Blk)→Bool
 |[]=>true
 |(_,.gh _)::_=>false
 |_::r=>HL r
def LO(T:AH)(rs:List ResultVar)(rS rA:List (Nat×Nat))(st:St):Option (List C×List (Nat×Blk)×V):=
 match lk Cv st.h with
 |some (.gh g1)=>(st.res T rs).bind fun v1=>
  let keys:=clos st.h 2000 (g1.filterMap C.id? ++SP v1) []
  let rN:=newR (Ek st.h) keys
  let rB:=oldR keys rA
  let keys2:=keys.map fun k=>Gz (Gz k rN) rB
  let rO:=oldR keys2 rS
  let keys':=keys2.map fun k=>Gz k rO
  let s1:=rns rO (rns rB (rns rN st))
  (match lk Cv s1.h with
  |some (.gh g2)=>let s:=s1.clean keys'
   (s.res T rs).bind fun v=>if (FX s.h keys').map (·.1)=keys'∧HL (FX s.h keys')=true then Cg fC (g2.map (C.on (B1 keys'))) fun gs'=>Cg Ei (FX s.h keys') fun h'=>fV v fun v=>some (gs',h',v) else none
  |_=>none)
 |_=>none
theorem NN: ∀{h:List (Nat×Blk)},HL h=true→ ∀i cs,lk i h≠some (.gh cs)
 |[],_,_,_,e=>by cases e
 |(j,b)::r,h,i,cs,e=>by
  unfold lk at e;cases b<;>simp only[HL,Bool.false_eq_true]at h
  all_goals
   split at e
   ·cases e
   ·exact NN h i cs e
theorem MY(h:List (Nat×Blk)): ∀l,AW h (FX h l)
 |[]=>trivial
 |i::r=>by
  unfold FX;split
  ·exact⟨by assumption,MY h r⟩
  ·exact MY h r
theorem Me{e:Exit}(h:I1 e=true):e= .ret∨e= .normal:=by
 cases e<;>first|exact .inl rfl|exact .inr rfl|cases h
theorem KU: ∀(a b:List (Nat×Nat)) (s:St),rns (a++b) s=rns b (rns a s)
 |[],_,_=>rfl
 |_::a,b,s=>KU a b _
theorem jgE{T:AH}{rs:List ResultVar}{rS rA:List (Nat×Nat)}{st:St}{gs':List C}{h':List (Nat×Blk)}{v:V}{e:Exit}(he:I1 e=true)(h:LO T rs rS rA st=some (gs',h',v)):(∀i cs,lk i h'≠some (.gh cs))∧Lc T rs gs' h' v e st:=by
 unfold LO at h;split at h
 case h_2=>cases h
 rename_i g1 hg1
 simp only[jzd]at h;obtain⟨v1,_,h⟩:=h;generalize clos st.h 2000 (g1.filterMap C.id? ++SP v1) []=ks at*;generalize newR (Ek st.h) ks=rN at*;generalize oldR ks rA=rB at*;generalize ks.map (fun k=>Gz (Gz k rN) rB)=keys2 at*
 generalize oldR keys2 rS=rO at*;generalize keys2.map (fun k=>Gz k rO)=keys at*
 rw[←KU,←KU]at h
 generalize (rN++(rB++rO))=r1 at*;split at h
 case h_2=>cases h
 rename_i g2 hg2
 simp only[jzd]at h;obtain⟨v2,hv,h⟩:=h;split at h
 case isFalse=>cases h
 rename_i hk
 obtain⟨hk,hn⟩:=hk
 simp only[Cy (f:=fC) Fp,Cy (f:=Ei) Ol,ji4,Option.some.injEq,Prod.mk.injEq]at h;obtain⟨rfl,rfl,rfl⟩:=h;refine⟨NN hn,Me he,r1,none,g2,hg2,?_⟩;simp only[hk];exact⟨trivial,.inl hv,MY _ _⟩
mutual
def F6(T:AH)(ext:FuncId→List A→Option R)(ex2:Cal2)(sA:Sh2)(B:FBs)(N:Nat):Nat→FuncId→List A→Option R
 |0,_,_=>none
 |n+1,f,aa=>Cg fA aa fun aa=>
  match ext f aa with
  |some r=>some r
  |none=>(B f).bind fun b=>if aa.length≤b.fn.ntmps then (evC T (F6 T ext ex2 sA B N n) sA ⟨GF T ext ex2 sA B N n,Gp T ext ex2 sA B N n⟩ b.pln b.kl N b.c (St.init aa)).bind fun p=>if I1 p.1 then (p.2.res T b.fn.results.toList).bind fun v=>(NH p.2 v).bind fun r=>if r.rows.length≤1 then fR r fun r=>some r else none else none else none
def GF(T:AH)(ext:FuncId→List A→Option R)(ex2:Cal2)(sA:Sh2)(B:FBs)(N:Nat):Nat→FuncId→Nat→Nat→List D→List A→Option (Nat×List D)
 |0,_,_,_,_,_=>none
 |n+1,f,sz,k,cs,aa=>De cs fun cs=>Cg fA aa fun aa=>
  match ex2.a f sz k cs aa with
  |some r=>some r
  |none=>(B f).bind fun b=>if aa.length+1≤b.fn.ntmps then (evC T (F6 T ext ex2 sA B N n) sA ⟨GF T ext ex2 sA B N n,Gp T ext ex2 sA B N n⟩ b.pln b.kl N b.c (St.initA k sz cs aa)).bind fun p=>if I1 p.1 then (match p.2.res T b.fn.results.toList with
   |some (.u (.c (.sl j 0 m)))=>(match lk j p.2.h with|some (.row z cs' true)=>if z=sz then De cs' fun cs'=>BO m fun m=>some (m,cs') else none|_=>none)
   |_=>none) else none else none
def Gp(T:AH)(ext:FuncId→List A→Option R)(ex2:Cal2)(sA:Sh2)(B:FBs)(N:Nat):Nat→FuncId→List U→List (Nat×Blk)→List C→Option (List C×List (Nat×Blk)×V)
 |0,_,_,_,_=>none
 |n+1,f,us,h,gs=>Cg fU us fun us=>Cg Ei h fun h=>Cg fC gs fun gs=>
  match ex2.h f us h gs with
  |some r=>some r
  |none=>(B f).bind fun b=>if us.length≤b.fn.ntmps∧b.fn.ntmps≤YS∧HL h=true∧(lk Cv h).isNone=true then
   (evC T (F6 T ext ex2 sA B N n) sA ⟨GF T ext ex2 sA B N n,Gp T ext ex2 sA B N n⟩ b.pln b.kl N b.c (rns (Gd (Ek h) 0 [] us) (rns (Io (Ek h) h) (St.initG us gs h)))).bind fun p=>if I1 p.1=true then LO T b.fn.results.toList (Io (Ek h) h) (Gd (Ek h) 0 [] us) p.2 else none
   else none
end
structure FBs.Ok (P:Program) (B:FBs):Prop where
 fn : ∀ f b, B f = some b → P.funcs[f]? = some b.fn ∧ b.fn.body = some b.c ∧ (b.fn.name == "runtime.NumGoroutine") = false ∧ B6 b.fn.ntmps [] b.c = true ∧ Cq b.pln b.c = true
theorem Q5{P:Program}{T:AH}(hT:A5 P T)(hm:P.follows .mixedOrders=true){ext:FuncId→List A→Option R}{ex2:Cal2}{sA:Sh2}{B:FBs}{N:Nat}(hext: ∀g aa r,ext g aa=some r→CallsF P g aa r)(hex2:CalOk P ex2)(hB:B.Ok P): ∀n,
  (∀g aa r,F6 T ext ex2 sA B N n g aa=some r→CallsF P g aa r)∧CalOk P ⟨GF T ext ex2 sA B N n,Gp T ext ex2 sA B N n⟩
 |0=>⟨fun g aa r h=>by simp[F6]at h,fun g sz k cs aa m cs' h=>by simp[GF]at h,fun g us h gs gs' h' v e=>by simp[Gp]at e⟩
 |n+1=>by
  obtain⟨hF,hA⟩:=Q5 hT hm hext hex2 hB n
  refine⟨fun g aa r h=> ?_,fun g sz k cs aa m cs' h=> ?_,fun g us h gs gs' h' v e=> ?_⟩
  ·simp only[F6,Cy (f:=fA) Qt]at h;split at h
   ·rename_i r' he
    cases h;exact hext _ _ _ he
   ·simp only[jzd]at h;obtain⟨b,hb,h⟩:=h;split at h
    case isFalse=>cases h
    rename_i hlen
    simp only[jzd]at h;obtain⟨p,hp,h⟩:=h;split at h
    case isFalse=>cases h
    rename_i hend
    simp only[jzd]at h;obtain⟨v,hv,r',hr,h⟩:=h;split at h
    case isFalse=>cases h
    rename_i hrl
    simp only[jf9]at h;cases h;obtain⟨b1,b2,b3,b4,b5⟩:=hB.fn g b hb;refine Am hT hm b1 b2 b3 hlen b4 ?_;refine K0 hF hA b.c b5 _ p _ hp ?_;exact⟨Me hend,v,hv,hrl,jkm hr hrl⟩
  ·simp only[GF,EX,BS,Cy (f:=fA) Qt]at h;split at h
   ·rename_i r' he
    cases h;exact hex2.a _ _ _ _ _ _ _ he
   simp only[jzd]at h;obtain⟨b,hb,h⟩:=h;split at h
   case isFalse=>cases h
   rename_i hlen
   simp only[jzd]at h;obtain⟨p,hp,h⟩:=h;split at h
   case isFalse=>cases h
   rename_i hend
   split at h
   ·rename_i j m' hres
    split at h
    ·rename_i z cs2 hl
     split at h
     ·rename_i hz
      subst hz;cases h;obtain⟨b1,b2,b3,b4,b5⟩:=hB.fn g b hb;refine Rc hT hm b1 b2 b3 hlen b4 ?_;refine K0 hF hA b.c b5 _ p _ hp ?_;exact⟨Me hend,j,hres,hl⟩
     ·cases h
    ·cases h
   ·cases h
  ·simp only[Gp,Cy (f:=fU) Nj,Cy (f:=Ei) Ol,Cy (f:=fC) Fp]at e;split at e
   ·rename_i r' he
    cases e;exact hex2.h _ _ _ _ _ _ _ he
   simp only[jzd]at e;obtain⟨b,hb,e⟩:=e;split at e
   case isFalse=>cases e
   rename_i hlen
   simp only[jzd]at e;obtain⟨p,hp,e⟩:=e;split at e
   case isFalse=>cases e
   rename_i hend
   obtain⟨b1,b2,b3,b4,b5⟩:=hB.fn g b hb
   obtain⟨f1,f2⟩:=jgE hend e
   rw[←KU]at hp
   refine Z3 (Io (Ek h) h++Gd (Ek h) 0 [] us) hT hm b1 b2 b3 hlen.1 hlen.2.1 b4 (by simpa using hlen.2.2.2) (NN hlen.2.2.1) f1 ?_
   exact K0 hF hA b.c b5 _ p _ hp f2
def KH:RC→RC→Bool
 | .d x,.d y=>CC x y
 | .own a b cs,.own a' b' cs'=>Nat.beq a a'&&(Nat.beq b b'&&LP cs cs')
 |_,_=>false
theorem N0{x y:RC}(h:KH x y=true):x=y:=by
 cases x<;>cases y<;>simp[KH]at h
 ·rw[JU h]
 ·rw[h.1,h.2.1,Ed h.2.2]
def Js:RU→RU→Bool
 | .c x,.c y=>KH x y
 | .agg xs,.agg ys=>B8 KH xs ys
 |_,_=>false
theorem Tx{x y:RU}(h:Js x y=true):x=y:=by
 cases x<;>cases y<;>simp only[Js,Bool.false_eq_true]at h
 ·rw[N0 h]
 ·rw[Cw (fun _ _=>N0) h]
def Mk:R→R→Bool
 | .u x,.u y=>Js x y
 | .tup xs,.tup ys=>B8 Js xs ys
 |_,_=>false
theorem YJ{x y:R}(h:Mk x y=true):x=y:=by
 cases x<;>cases y<;>simp only[Mk,Bool.false_eq_true]at h
 ·rw[Tx h]
 ·rw[Cw (fun _ _=>Tx) h]
abbrev Tbl:=List (Nat×List (List A×R))
def KA(aa:List A):List (List A×R)→Option R
 |[]=>none
 |(bb,r)::l=>if B8 Kd aa bb then some r else KA aa l
def Tbl.find(aa:List A)(f:Nat):Tbl→Option R
 |[]=>none
 |(g,l)::t=>if Nat.beq g f then (match KA aa l with|some r=>some r|none=>Tbl.find aa f t) else Tbl.find aa f t
def Tbl.ext(t:Tbl)(f:FuncId)(aa:List A):Option R:=t.find aa f
def Tbl.Ok(P:Program)(t:Tbl):Prop:= ∀g∈t,∀e∈g.2,CallsF P g.1 e.1 e.2
theorem QF{aa:List A}{r:R}: ∀{l:List (List A×R)},KA aa l=some r→(aa,r)∈l
 |(bb,x)::l,h=>by
  unfold KA at h;split at h
  ·rename_i e
   cases h;rw[Cw (fun _ _=>S7) e]
   exact List.mem_cons_self ..
  ·exact List.mem_cons_of_mem _ (QF h)
theorem Tbl.ext_ok{P:Program}: ∀{t:Tbl},t.Ok P→ ∀g aa r,t.ext g aa=some r→CallsF P g aa r
 |[],_,g,aa,r,h=>by cases h
 |(g',l)::t,ht,g,aa,r,h=>by
  have hr:Tbl.Ok P t:=fun x hx=>ht x (List.mem_cons_of_mem _ hx)
  unfold Tbl.ext Tbl.find at h;split at h
  ·rename_i e
   have e:g'=g:=by simpa using e
   subst e;split at h
   ·rename_i x hx
    cases h;exact ht _ (List.mem_cons_self ..) _ (QF hx)
   ·exact Tbl.ext_ok hr g' aa r h
  ·exact Tbl.ext_ok hr g aa r h
theorem Tbl.ok_nil{P:Program}:Tbl.Ok P []:=fun g hg=>by cases hg
def Ents(P:Program)(f:FuncId):List (List A×R)→Prop
 |[]=>True
 |e::l=>CallsF P f e.1 e.2∧Ents P f l
theorem Ents.mem{P:Program}{f:FuncId}: ∀{l:List (List A×R)},Ents P f l→ ∀e∈l,CallsF P f e.1 e.2
 |e::l,h,x,hx=>by
  rcases jzn.1 hx with rfl|hx
  ·exact h.1
  ·exact Ents.mem h.2 x hx
theorem Tbl.ok_cons{P:Program}{f:FuncId}{l:List (List A×R)}{t:Tbl}(h:Ents P f l)(ht:t.Ok P):Tbl.Ok P ((f,l)::t):=fun g hg=>by
 rcases jzn.1 hg with rfl|hg
 ·exact h.mem
 ·exact ht g hg
theorem Tbl.ok_app{P:Program}{s t:Tbl}(hs:s.Ok P)(ht:t.Ok P):Tbl.Ok P (s++t):=fun g hg=>by
 rcases List.mem_append.1 hg with h|h
 ·exact hs g h
 ·exact ht g h
def Jo(x:Option R)(r:R):Bool:=match x with|some y=>Mk y r|none=>false
theorem UP{x:Option R}{r:R}(h:Jo x r=true):x=some r:=by
 unfold Jo at h;split at h
 ·rw[YJ h]
 ·cases h
def Tbl.runs(ev:FuncId→List A→Option R)(t:Tbl):Bool:=t.all fun g=>g.2.all fun e=>Jo (ev g.1 e.1) e.2
theorem Tbl.runs_ok{P:Program}{ev:FuncId→List A→Option R}(hev: ∀g aa r,ev g aa=some r→CallsF P g aa r){t:Tbl}(h:t.runs ev=true):t.Ok P:=fun g hg e he=>by
 have:=jzy.1 (jzy.1 h g hg) e he
 exact hev _ _ _ (UP this)
structure KeyA where
 sz:Nat
 k:Nat
 cs:List D
 aa:List A
def Mi(x y:KeyA):Bool:=Nat.beq x.sz y.sz&&(Nat.beq x.k y.k&&(LP x.cs y.cs&&B8 Kd x.aa y.aa))
theorem jaG{x y:KeyA}(h:Mi x y=true):x=y:=by
 obtain⟨a,b,c,d⟩:=x
 obtain⟨a',b',c',d'⟩:=y
 simp only[Mi,AR,Nat.beq_eq]at h;obtain⟨rfl,rfl,h3,h4⟩:=h;rw[Ed h3,Cw (fun _ _=>S7) h4]
abbrev TblA:=List (Nat×List (KeyA×Nat×List D))
def Jp(x:KeyA):List (KeyA×Nat×List D)→Option (Nat×List D)
 |[]=>none
 |(y,r)::l=>if Mi x y then some r else Jp x l
def TblA.find(x:KeyA)(f:Nat):TblA→Option (Nat×List D)
 |[]=>none
 |(g,l)::t=>if Nat.beq g f then (match Jp x l with|some r=>some r|none=>TblA.find x f t) else TblA.find x f t
def TblA.ext(t:TblA)(f:FuncId)(sz k:Nat)(cs:List D)(aa:List A):Option (Nat×List D):=t.find ⟨sz,k,cs,aa⟩ f
def TblA.Ok(P:Program)(t:TblA):Prop:= ∀g∈t,∀e∈g.2,CallsA P g.1 e.1.sz e.1.k e.1.cs e.1.aa e.2.1 e.2.2
theorem Pb{x:KeyA}{r:Nat×List D}: ∀{l:List (KeyA×Nat×List D)},Jp x l=some r→(x,r)∈l
 |(y,q)::l,h=>by
  unfold Jp at h;split at h
  ·rename_i e
   cases h;rw[jaG e]
   exact List.mem_cons_self ..
  ·exact List.mem_cons_of_mem _ (Pb h)
theorem TblA.find_ok{P:Program}: ∀{t:TblA},t.Ok P→ ∀g x m cs',t.find x g=some (m,cs')→CallsA P g x.sz x.k x.cs x.aa m cs'
 |[],_,g,x,m,cs',h=>by cases h
 |(g',l)::t,ht,g,x,m,cs',h=>by
  have hr:TblA.Ok P t:=fun y hy=>ht y (List.mem_cons_of_mem _ hy)
  unfold TblA.find at h;split at h
  ·rename_i e
   have e:g'=g:=by simpa using e
   subst e;split at h
   ·rename_i y hy
    cases h;exact ht _ (List.mem_cons_self ..) _ (Pb hy)
   ·exact TblA.find_ok hr g' x m cs' h
  ·exact TblA.find_ok hr g x m cs' h
theorem TblA.ext_ok{P:Program}{t:TblA}(ht:t.Ok P): ∀g sz k cs aa m cs',t.ext g sz k cs aa=some (m,cs')→CallsA P g sz k cs aa m cs':=fun g sz k cs aa m cs' h=>TblA.find_ok ht g ⟨sz,k,cs,aa⟩ m cs' h
theorem TblA.ok_nil{P:Program}:TblA.Ok P []:=fun g hg=>by cases hg
theorem TblA.ok_app{P:Program}{s t:TblA}(hs:s.Ok P)(ht:t.Ok P):TblA.Ok P (s++t):=fun g hg=>by
 rcases List.mem_append.1 hg with h|h
 ·exact hs g h
 ·exact ht g h
def L8(x:Option (Nat×List D))(r:Nat×List D):Bool:=match x with|some y=>Nat.beq y.1 r.1&&LP y.2 r.2|none=>false
theorem WL{x:Option (Nat×List D)}{r:Nat×List D}(h:L8 x r=true):x=some r:=by
 unfold L8 at h;split at h
 ·rename_i y
  obtain⟨a,b⟩:=y
  obtain⟨c,d⟩:=r
  simp only[AR,Nat.beq_eq]at h;rw[h.1,Ed h.2]
 ·cases h
structure KeyH where
 us:List U
 h:List (Nat×Blk)
 gs:List C
structure ResH where
 gs:List C
 h:List (Nat×Blk)
 v:V
def MI(x y:KeyH):Bool:=B8 HH x.us y.us&&(B8 Kc x.h y.h&&B8 E1 x.gs y.gs)
theorem jhs{x y:KeyH}(h:MI x y=true):x=y:=by
 obtain⟨a,b,c⟩:=x
 obtain⟨a',b',c'⟩:=y
 simp only[MI,AR]at h;rw[Cw LM h.1,Cw N3 h.2.1,Cw Gk h.2.2]
abbrev TblH:=List (Nat×List (KeyH×ResH))
def JK(x:KeyH):List (KeyH×ResH)→Option ResH
 |[]=>none
 |(y,r)::l=>if MI x y then some r else JK x l
def TblH.find(x:KeyH)(f:Nat):TblH→Option ResH
 |[]=>none
 |(g,l)::t=>if Nat.beq g f then (match JK x l with|some r=>some r|none=>TblH.find x f t) else TblH.find x f t
def TblH.ext(t:TblH)(f:FuncId)(us:List U)(h:List (Nat×Blk))(gs:List C):Option (List C×List (Nat×Blk)×V):=(t.find ⟨us,h,gs⟩ f).map fun r=>(r.gs,r.h,r.v)
def TblH.Ok(P:Program)(t:TblH):Prop:= ∀g∈t,∀e∈g.2,GJ P g.1 e.1.us e.1.gs e.2.gs e.1.h e.2.h e.2.v
theorem Oc{x:KeyH}{r:ResH}: ∀{l:List (KeyH×ResH)},JK x l=some r→(x,r)∈l
 |(y,q)::l,h=>by
  unfold JK at h;split at h
  ·rename_i e
   cases h;rw[jhs e]
   exact List.mem_cons_self ..
  ·exact List.mem_cons_of_mem _ (Oc h)
theorem TblH.find_ok{P:Program}: ∀{t:TblH},t.Ok P→ ∀g x r,t.find x g=some r→GJ P g x.us x.gs r.gs x.h r.h r.v
 |[],_,g,x,r,h=>by cases h
 |(g',l)::t,ht,g,x,r,h=>by
  have hr:TblH.Ok P t:=fun y hy=>ht y (List.mem_cons_of_mem _ hy)
  unfold TblH.find at h;split at h
  ·rename_i e
   have e:g'=g:=by simpa using e
   subst e;split at h
   ·rename_i y hy
    cases h;exact ht _ (List.mem_cons_self ..) _ (Oc hy)
   ·exact TblH.find_ok hr g' x r h
  ·exact TblH.find_ok hr g x r h
theorem TblH.ext_ok{P:Program}{t:TblH}(ht:t.Ok P): ∀g us h gs gs' h' v,t.ext g us h gs=some (gs',h',v)→GJ P g us gs gs' h h' v:=fun g us h gs gs' h' v e=>by
 unfold TblH.ext at e;rw[jze]at e;obtain⟨r,hr,e⟩:=e;cases e;exact TblH.find_ok ht g ⟨us,h,gs⟩ r hr
theorem TblH.ok_nil{P:Program}:TblH.Ok P []:=fun g hg=>by cases hg
theorem TblH.ok_app{P:Program}{s t:TblH}(hs:s.Ok P)(ht:t.Ok P):TblH.Ok P (s++t):=fun g hg=>by
 rcases List.mem_append.1 hg with h|h
 ·exact hs g h
 ·exact ht g h
def MZ(x:Option (List C×List (Nat×Blk)×V))(r:ResH):Bool:=match x with|some y=>B8 E1 y.1 r.gs&&(B8 Kc y.2.1 r.h&&Mx y.2.2 r.v)|none=>false
theorem jfD{x:Option (List C×List (Nat×Blk)×V)}{r:ResH}(h:MZ x r=true):x=some (r.gs,r.h,r.v):=by
 unfold MZ at h;split at h
 ·rename_i y
  obtain⟨a,b,c⟩:=y
  simp only[AR]at h;rw[Cw Gk h.1,Cw N3 h.2.1,jdL h.2.2]
 ·cases h
structure Tb2 where
 f:Tbl
 a:TblA
 h:TblH
def Tb2.Ok(P:Program)(t:Tb2):Prop:=t.f.Ok P∧t.a.Ok P∧t.h.Ok P
def Tb2.cal(t:Tb2):Cal2:=⟨t.a.ext,t.h.ext⟩
theorem Tb2.cal_ok{P:Program}{t:Tb2}(h:t.Ok P):CalOk P t.cal:=⟨fun g sz n cs aa m cs' e=>TblA.ext_ok h.2.1 g sz n cs aa m cs' e,fun g us x gs gs' h' v e=>TblH.ext_ok h.2.2 g us x gs gs' h' v e⟩
def Tb2.app(s t:Tb2):Tb2:=⟨s.f++t.f,s.a++t.a,s.h++t.h⟩
theorem Tb2.ok_app{P:Program}{s t:Tb2}(hs:s.Ok P)(ht:t.Ok P):(s.app t).Ok P:=⟨Tbl.ok_app hs.1 ht.1,TblA.ok_app hs.2.1 ht.2.1,TblH.ok_app hs.2.2 ht.2.2⟩
def Tb2.runs(ev:FuncId→List A→Option R)(c:Cal2)(t:Tb2):Bool:=
 (t.f.all fun g=>g.2.all fun e=>Jo (ev g.1 e.1) e.2)&&((t.a.all fun g=>g.2.all fun e=>L8 (c.a g.1 e.1.sz e.1.k e.1.cs e.1.aa) e.2)&&(t.h.all fun g=>g.2.all fun e=>MZ (c.h g.1 e.1.us e.1.h e.1.gs) e.2))
theorem Tb2.runs_ok{P:Program}{ev:FuncId→List A→Option R}{c:Cal2}(hev:(∀g aa r,ev g aa=some r→CallsF P g aa r)∧CalOk P c){t:Tb2}(h:t.runs ev c=true):t.Ok P:=by
 simp only[Tb2.runs,AR]at h;refine⟨fun g hg e he=> ?_,fun g hg e he=> ?_,fun g hg e he=> ?_⟩
 ·have:=jzy.1 (jzy.1 h.1 g hg) e he
  exact hev.1 _ _ _ (UP this)
 ·have:=jzy.1 (jzy.1 h.2.1 g hg) e he
  exact hev.2.a _ _ _ _ _ _ _ (WL this)
 ·have:=jzy.1 (jzy.1 h.2.2 g hg) e he
  exact hev.2.h _ _ _ _ _ _ _ (jfD this)
def LN(fn:Func)(pln:HA)(kl:List Nat):FB:=⟨fn,fn.body.getD .skip,pln,kl⟩
def FB.okB (b : FB) : Bool := (match b.fn.body with | some _ => true | none => false) && (!(b.fn.name == "runtime.NumGoroutine") && (B6 b.fn.ntmps [] b.c && Cq b.pln b.c))
def FB.Ok (P : Program) (f : Nat) (b : FB) : Prop := P.funcs[f]? = some b.fn ∧ b.fn.body = some b.c ∧ (b.fn.name == "runtime.NumGoroutine") = false ∧ B6 b.fn.ntmps [] b.c = true ∧ Cq b.pln b.c = true
theorem Xf{P:Program}{f:Nat}{fn:Func}{pln:HA}{kl:List Nat}(hf:P.funcs[f]? =some fn)(h:(LN fn pln kl).okB=true):(LN fn pln kl).Ok P f:=by
 unfold FB.okB at h;simp only[AR,Bool.not_eq_true']at h;obtain⟨h1,h2,h3,h4⟩:=h;refine⟨hf,?_,h2,h3,h4⟩
 show fn.body=some (fn.body.getD .skip)
 have h1:(match fn.body with|some _=>true|none=>false)=true:=h1
 cases hb:fn.body with
 |none=>rw[hb]at h1;cases h1
 |some c=>rfl
inductive BT where
 |leaf
 |node (l:BT) (k:Nat) (b:FB) (r:BT)
def BT.find:BT→Nat→Option FB
 | .leaf,_=>none
 | .node l k b r,f=>if Nat.beq f k then some b else if Nat.blt f k then l.find f else r.find f
def BT.Ok(P:Program):BT→Prop
 | .leaf=>True
 | .node l k b r=>l.Ok P∧b.Ok P k∧r.Ok P
theorem BT.ok{P:Program}: ∀{t:BT},t.Ok P→ ∀f b,t.find f=some b→b.Ok P f
 | .leaf,_,f,b,h=>by cases h
 | .node l k c r,⟨h1,h2,h3⟩,f,b,h=>by
  unfold BT.find at h;split at h
  ·rename_i e
   cases h;have e:f=k:=by simpa using e
   rw[e]
   exact h2
  split at h
  ·exact BT.ok h1 f b h
  ·exact BT.ok h3 f b h
theorem BT.bods{P:Program}{t:BT}(h:t.Ok P):FBs.Ok P t.find:=⟨fun f b hb=>BT.ok h f b hb⟩
inductive TT where
 |leaf
 |node (l:TT) (k:Nat) (i:TI) (r:TT)
def TT.find:TT→Nat→Option TI
 | .leaf,_=>none
 | .node l k i r,t=>if Nat.beq t k then some i else if Nat.blt t k then l.find t else r.find t
def TT.okB(P:Program):TT→Bool
 | .leaf=>true
 | .node l k i r=>l.okB P&&(HB P k i&&r.okB P)
theorem TT.ok{P:Program}: ∀{x:TT},x.okB P=true→A5 P x.find
 | .leaf,_,t,i,h=>by cases h
 | .node l k j r,hx,t,i,h=>by
  unfold TT.okB at hx;simp only[AR]at hx;obtain⟨h1,h2,h3⟩:=hx;unfold TT.find at h;split at h
  ·rename_i e
   cases h;have e:t=k:=by simpa using e
   rw[e]
   exact h2
  split at h
  ·exact TT.ok h1 t i h
  ·exact TT.ok h3 t i h
def IJ:List (Nat×Nat)→FuncId→Option Nat
 |[],_=>none
 |(g,n)::r,f=>if Nat.beq g f then some n else IJ r f
end Go.Va
