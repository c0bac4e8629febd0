/- a part of the proof -/
import Derived.Test.YtkfdniccmcolgaaGreatQbm
import Derived.Test.YtkfdniccmcolgaaGreatQbl
set_option linter.all false
set_option maxHeartbeats 4000000
set_option maxRecDepth 10000
namespace Go.Va
open Int (natCast_add natCast_mul natCast_emod natCast_ediv natCast_pow)
open Go.Proofs
def RJ:List (List Nat):=(Aj [0,1,3,7,0,16,48,112,240,0,512,1536,3584,8191,0,32767])
@[simp]def PW:List Seg:=[.any [] [7,41] [⟨0,[0],[7,41],[7,41],[]⟩,⟨0,[33],[7,41],[7,41],[]⟩,⟨0,[34],[7,41],[7,41],[]⟩,⟨0,[35],[7,41],[7,41],[]⟩,⟨0,[0],[7],[7,41],[]⟩,⟨0,[37],[7],[7,41],[]⟩,⟨0,[38],[7],[7,41],[]⟩,⟨0,[39],[7],[7,41],[]⟩,⟨1,[40],[7],[7],[]⟩,⟨0,[0],[7,41],[7,41],[]⟩,⟨0,[42],[7,41],[7,41],[]⟩,⟨0,[43],[7,41],[7,41],[]⟩,⟨0,[44],[7,41],[7,41],[]⟩,⟨0,[36,41,45],[7],[7],[]⟩,⟨1,[],[41],[41],[]⟩],.one]
def Ck(a b:Int)(l:List Int):List Int:=l.map fun x=>if x=a then b else x
def A8(a b:Int)(q:Fct):Fct:=⟨q.kind,Ck a b q.args,q.neg,q.abs,q.den⟩
def Cy(a b:Int)(l:List Int)(j:Nat):List Int:=Ck a b (l.take j)++l.drop j
theorem P5(a b:Int)(l:List Int)(j:Nat):(Cy a b l j).length=l.length:=by
 simp[Cy,Ck];omega
theorem MU{a b:Int}{l:List Int}{j:Nat}(h:j<l.length):(Cy a b l j)[j]? =some l[j]:=by
 unfold Cy;rw[List.getElem?_append_right (by simp[Ck];omega)]
 simp[Ck,AU (Nat.le_of_lt h),h]
theorem Rz{a b:Int}{l:List Int}{j:Nat}(h:j<l.length)(h':j<(Cy a b l j).length):(Cy a b l j)[j]=l[j]:=by
 have:=MU (a:=a) (b:=b) h
 rw[Ai h']at this
 exact AX this
theorem GO(a b:Int)(l:List Int):(Ck a b l).length=l.length:=by simp[Ck]
theorem Tq{a b:Int}{l:List Int}{j:Nat}(h:j<l.length):Cy a b l (j+1)=(Cy a b l j).set j (if l[j]=a then b else l[j]):=by
 unfold Cy Ck;rw[List.set_append_right _ _ (by simp;omega),AQ h,List.map_append,List.append_assoc]
 congr 1
 simp only[List.length_map,AG,AU (Nat.le_of_lt h),Nat.sub_self];rw[AD h];rfl
theorem Sz(a b:Int)(l:List Int):Cy a b l l.length=Ck a b l:=by simp[Cy,Ck]
theorem Ve(a b:Int)(l:List Int):Cy a b l 0=l:=by simp[Cy,Ck]
theorem OI(a b:Int)(q:Fct):Di (A8 a b q)=[.agg [.int .i64 q.kind,.slice q.args.length ((Ck a b q.args).map i64),.bool q.neg,Ab q.abs,Ab q.den]]:=by
 show[A.agg [.int .i64 q.kind,.slice (Ck a b q.args).length ((Ck a b q.args).map i64),.bool q.neg,Ab q.abs,Ab q.den]]=_
 rw[GO]
theorem Na{x:D}{j:Nat}{l:List D}(h:j<l.length):splice j [x] l=l.set j x:=by
 unfold splice;rw[List.set_eq_take_append_cons_drop,if_pos h];simp
theorem jaF(x:Value)(p q:Fct)(h:p.kind≠8):Bp Tryz.prog x 148 [.c (AE [p,q]),.c (.lit x)] []:=by
 refine Cz (T:=tb) Ad mixed Tryz.func148 rfl (by decide) (Ac rfl) rfl rfl ?_;intro rest;unfold St.initY
 simp only[AE,List.flatMap_cons,List.flatMap_nil,List.append_nil,Fct.ds,List.cons_append,List.nil_append,List.length_cons,List.length_nil];simp -implicitDefEqProofs[jJ,-natCast_add,-natCast_mul,-List.map_set,-List.reduceReplicate,h,BH]
theorem XH(x:Value)(p q:Fct)(hk:p.kind=8)(a b:Int)(ha:p.args=[a,b])(hq:q.args≠[])(hl:q.args.length≤1000):
  Bp Tryz.prog x 148 [.c (AE [p,q]),.c (.lit x)] ([A8 a b q,A8 b a q].map Di):=by
 have kc:=Pj q.args (by omega) hq
 refine Cz (T:=tb) Ad mixed Tryz.func148 rfl (by decide) (Ac rfl) rfl rfl ?_;intro rest;unfold St.initY
 simp only[AE,List.flatMap_cons,List.flatMap_nil,List.append_nil,Fct.ds,List.cons_append,List.nil_append,List.length_cons,List.length_nil,hk,ha];simp -implicitDefEqProofs[jJ,-natCast_add,-natCast_mul,-List.map_set,-List.reduceReplicate];refine Av (fun i:Nat=>⟨[(1000000,.tr x ((match i with|0=>[A8 a b q,A8 b a q]|1=>[A8 b a q]|_=>[]).map Di++rest)),(20,vI .i64 i),(19,vI .i64 2),(18,vC (.d (intsD [a,b]))),(0,vC (.d (.slice 2 [.int .i64 8,intsD [a,b],.bool p.neg,Ab p.abs,Ab p.den,.int .i64 q.kind,intsD q.args,.bool q.neg,Ab q.abs,Ab q.den]))),(1,vC (.d (.lit x)))],
  []⟩) (fun i=>i≤2) (fun i=>2 - i) 0 (by simp[An,lk,St.le,vI,vC]) (by omega) ?_
 rintro i hi
 match i,hi with
 |0,_=>
  simp -implicitDefEqProofs[jJ,-natCast_add,-natCast_mul,-List.map_set,-List.reduceReplicate];refine Af RJ PW (by rfl) ?_
  simp -implicitDefEqProofs[jJ,-natCast_add,-natCast_mul,-List.map_set,-List.reduceReplicate];refine Al kc ?_;simp -implicitDefEqProofs[jJ,-natCast_add,-natCast_mul,-List.map_set,-List.reduceReplicate];refine Av (fun j:Nat=>⟨[(1000000,.tr x ([A8 a b q,A8 b a q].map Di++rest)),(50,vI .i64 j),(49,vI .i64 q.args.length),(48,vC (.sl 41 0 q.args.length)),(7,vC (.ptr 7 0)),(6,vI .i64 b),(5,vI .i64 a),(20,vI .i64 0),(19,vI .i64 2),(18,vC (.d (intsD [a,b]))),(0,vC (.d (.slice 2 [.int .i64 8,intsD [a,b],.bool p.neg,Ab p.abs,Ab p.den,.int .i64 q.kind,intsD q.args,.bool q.neg,Ab q.abs,Ab q.den]))),(1,vC (.d (.lit x)))],
   [(7,.box [.d (.int .i64 q.kind),.sl 41 0 q.args.length,.d (.bool q.neg),.d (Ab q.abs),.d (Ab q.den)]),(41,.row 1 ((Cy a b q.args j).map i64) true)]⟩) (fun j=>j≤q.args.length) (fun j=>q.args.length - j) 0 (by simp[An,lk,St.le,vI,vC,Ve,i64]) (by omega) ?_
  rintro j hj
  by_cases h:j<q.args.length
  ·have g:=MU (a:=a) (b:=b) h;have gl:=P5 a b q.args j;have st:=Tq (a:=a) (b:=b) h;have ge:=Rz (a:=a) (b:=b) h (by rw[gl];exact h)
   have hsp:splice j [D.int .i64 b] ((Cy a b q.args j).map i64)=((Cy a b q.args j).set j b).map i64:=by
    rw[Na (by rw[List.length_map,gl];exact h),List.map_set]
    rfl
   simp -implicitDefEqProofs[jJ,-natCast_add,-natCast_mul,-List.map_set,-List.reduceReplicate,h,g,gl,ge,i64];refine⟨fun q1=>⟨by omega,by omega,j+1,⟨rfl,?_⟩,by omega,by omega⟩,fun q1=>⟨by omega,j+1,⟨rfl,?_⟩,by omega,by omega⟩⟩
   ·rw[hsp,st,if_pos q1]
   ·rw[st,if_neg q1]
    congr 1
    rw[←ge]
    exact(List.set_getElem_self _).symm
  ·have hj2:j=q.args.length:=by omega
   subst hj2;rw[Sz];simp -implicitDefEqProofs[jJ,-natCast_add,-natCast_mul,-List.map_set,-List.reduceReplicate];have sl:=GO a b q.args;simp only[List.map_cons,List.map_nil,OI,List.cons_append,List.nil_append];refine⟨_,_,by simp[lk];exact⟨rfl,rfl⟩,by simp[St.argsW,U.toA,toD,lk,sl];exact AI (by simp[sl]),?_⟩
   simp -implicitDefEqProofs[jJ,-natCast_add,-natCast_mul,-List.map_set,-List.reduceReplicate,St.reachU,A6,St.backY,St.rest];exact⟨1,⟨by simp[OI],rfl⟩,by omega,by omega⟩
 |1,_=>
  simp -implicitDefEqProofs[jJ,-natCast_add,-natCast_mul,-List.map_set,-List.reduceReplicate];refine Af RJ PW (by rfl) ?_
  simp -implicitDefEqProofs[jJ,-natCast_add,-natCast_mul,-List.map_set,-List.reduceReplicate];refine Al kc ?_;simp -implicitDefEqProofs[jJ,-natCast_add,-natCast_mul,-List.map_set,-List.reduceReplicate];refine Av (fun j:Nat=>⟨[(1000000,.tr x ([A8 b a q].map Di++rest)),(50,vI .i64 j),(49,vI .i64 q.args.length),(48,vC (.sl 41 0 q.args.length)),(7,vC (.ptr 7 0)),(6,vI .i64 a),(5,vI .i64 b),(20,vI .i64 1),(19,vI .i64 2),(18,vC (.d (intsD [a,b]))),(0,vC (.d (.slice 2 [.int .i64 8,intsD [a,b],.bool p.neg,Ab p.abs,Ab p.den,.int .i64 q.kind,intsD q.args,.bool q.neg,Ab q.abs,Ab q.den]))),(1,vC (.d (.lit x)))],
   [(7,.box [.d (.int .i64 q.kind),.sl 41 0 q.args.length,.d (.bool q.neg),.d (Ab q.abs),.d (Ab q.den)]),(41,.row 1 ((Cy b a q.args j).map i64) true)]⟩) (fun j=>j≤q.args.length) (fun j=>q.args.length - j) 0 (by simp[An,lk,St.le,vI,vC,Ve,i64]) (by omega) ?_
  rintro j hj
  by_cases h:j<q.args.length
  ·have g:=MU (a:=b) (b:=a) h;have gl:=P5 b a q.args j;have st:=Tq (a:=b) (b:=a) h;have ge:=Rz (a:=b) (b:=a) h (by rw[gl];exact h)
   have hsp:splice j [D.int .i64 a] ((Cy b a q.args j).map i64)=((Cy b a q.args j).set j a).map i64:=by
    rw[Na (by rw[List.length_map,gl];exact h),List.map_set]
    rfl
   simp -implicitDefEqProofs[jJ,-natCast_add,-natCast_mul,-List.map_set,-List.reduceReplicate,h,g,gl,ge,i64];refine⟨fun q1=>⟨by omega,by omega,j+1,⟨rfl,?_⟩,by omega,by omega⟩,fun q1=>⟨by omega,j+1,⟨rfl,?_⟩,by omega,by omega⟩⟩
   ·rw[hsp,st,if_pos q1]
   ·rw[st,if_neg q1]
    congr 1
    rw[←ge]
    exact(List.set_getElem_self _).symm
  ·have hj2:j=q.args.length:=by omega
   subst hj2;rw[Sz];simp -implicitDefEqProofs[jJ,-natCast_add,-natCast_mul,-List.map_set,-List.reduceReplicate];have sl:=GO b a q.args;simp only[List.map_cons,List.map_nil,OI,List.cons_append,List.nil_append];refine⟨_,_,by simp[lk];exact⟨rfl,rfl⟩,by simp[St.argsW,U.toA,toD,lk,sl];exact AI (by simp[sl]),?_⟩
   simp -implicitDefEqProofs[jJ,-natCast_add,-natCast_mul,-List.map_set,-List.reduceReplicate,St.reachU,A6,St.backY,St.rest];exact⟨2,⟨rfl,rfl⟩,by omega,by omega⟩
 |2,_=>
  simp -implicitDefEqProofs[jJ,-natCast_add,-natCast_mul,-List.map_set,-List.reduceReplicate,BH]
end Go.Va
namespace Go.Va
open Int (natCast_add natCast_mul natCast_emod natCast_ediv natCast_pow)
open Go.Proofs Go.Shelf Go.RowKit Go.Lib Go.Sort
theorem jfO(a b:Fnd)(ha:a.fact.Rt)(hb:b.fact.Rt):CallsF Tryz.prog 58 [.agg a.ds,.agg b.ds] (.u (.c (.d (.int .i64 (DH a b))))):=by
 have k:=MD a.fact b.fact ha.mild hb.mild ha.num hb.num;unfold DH;simp only[Fct.ds,Fnd.ds]at*;refine Ae (T:=tb) Ad mixed Tryz.func58 rfl (by decide) (Ac rfl) rfl ?_;unfold St.init
 simp -implicitDefEqProofs[jJ,-natCast_add,-natCast_mul];refine Aa k ?_;simp -implicitDefEqProofs[jJ,-natCast_add,-natCast_mul]
theorem isCmp_N:IsCmp (fun x:Fnd=>x.fact.Num) DH:=⟨fun x y hx hy=>isCmp_F.rng _ _ hx hy,fun x y hx hy=>isCmp_F.anti _ _ hx hy,fun x y z hx hy hz=>isCmp_F.tr _ _ _ hx hy hz⟩
theorem WQ(i:Nat)(l:List Fnd)(app:Bool)(hl:l.length≤1099511627776)(hr:FndOk l):
  EQ Tryz.prog 57 [.c (.sl i 0 l.length),.c (.d (.fn 58 []))] [(i,.row 6 (l.flatMap Fnd.ds) app)] [(i,.row 6 ((CU DH l).flatMap Fnd.ds) app)] (.tup []):=by
 have hnd: ∀x y,x∈l→y∈l→DH x y=0→x=y:=by
  intro x y hx hy h;have e:x.fact=y.fact:=(Et (hr.rt x hx) (hr.rt y hy)).1 h;obtain⟨i,hi,rfl⟩:=List.mem_iff_getElem.1 hx;obtain⟨j,hj,rfl⟩:=List.mem_iff_getElem.1 hy;have hp:=List.pairwise_iff_getElem.1 hr.nd;rcases Nat.lt_trichotomy i j with h1|h1|h1
  ·exact absurd e (hp i j hi hj h1)
  ·subst h1;rfl
  ·exact absurd e.symm (hp j i hj hi h1)
 exact VR (P:=fun x=>x∈l) (by omega) Fnd.ds_len ⟨fun x y hx hy=>isCmp_N.rng x y (hr.rt x hx).num (hr.rt y hy).num,fun x y hx hy=>isCmp_N.anti x y (hr.rt x hx).num (hr.rt y hy).num,fun x y z hx hy hz=>isCmp_N.tr x y z (hr.rt x hx).num (hr.rt y hy).num (hr.rt z hz).num⟩
  (fun x hx=>(Et (hr.rt x hx) (hr.rt x hx)).2 rfl) hnd Tryz.laysSF rfl ⟨_,Tryz.func57,rfl,by decide⟩ Tryz.isAgg64 Tryz.sizeOf64 58
  (enters_of Tryz.func58 (by kernel_rfl) rfl) (fun x y hx hy=>jfO x y (hr.rt x hx) (hr.rt y hy)) i l app hl (fun f hf=>hf)
theorem Sw:CallsF Tryz.prog 57 [.c (.slice 0 []),.c (.fn 58 [])] (.tup []):=by
 refine⟨⟨_,Tryz.func57,rfl,by decide⟩,fun w Z vals hZ hv=> ?_⟩
 obtain⟨v,v2,rfl⟩: ∃v v2,vals=[v,v2]:=by
  have:=hv.1
  match vals,this with
  |[v,v2],_=>exact⟨v,v2,rfl⟩
 obtain⟨p,cap,rfl⟩: ∃p cap,v= .slice p 0 cap:=by
  have h:RepD w Z (.slice 0 []) v:=hv.2 0 _ v rfl rfl;cases h with
  |slice n cs a c vs=>exact⟨some a,c,rfl⟩
  |snil=>exact⟨none,0,rfl⟩
 have hcon:=AnyF.slices_SortFunc_none Tryz.laysSF p cap v2 w;refine Calls.mono hcon fun e w' ⟨he,hw⟩=> ?_
 subst hw;refine⟨_,he,Ext.refl _,by simp[R.rows],⟨0,0,0,0,true,true,true⟩,fun ad h=>(by cases h.1),fun k=> ?_⟩
 have hρ: ∀i,BN k [] (⟨0,0,0,0,true,true,true⟩:Own) i=none:=fun i=>rfl
 exact⟨⟨[],rfl,by simp[R.imp],fun j x v hx=>by simp[R.imp]at hx⟩,⟨⟨fun j o hj=>by(rw[R.rows,List.flatMap_nil,hρ]at hj;cases hj),fun j j' o o' hj=>by(rw[R.rows,List.flatMap_nil,hρ]at hj;cases hj),fun j o hj=>by(rw[R.rows,List.flatMap_nil,hρ]at hj;cases hj)⟩,fun i b hb=>by cases hb⟩⟩
end Go.Va
namespace Go.Va
open Int (natCast_add natCast_mul natCast_emod natCast_ediv natCast_pow)
open Go.Proofs
@[simp]theorem M6(l:List Fct):(l.flatMap Fct.ds).take (l.length*5)=l.flatMap Fct.ds:=AI (by rw[I3];omega)
@[simp]theorem jiJ(l:List Fct):D.slice l.length (l.flatMap Fct.ds)=AE l:=rfl
def CG(n:Int)(ps:List Fct):List Fnd:=
 if (rulT n).name=[]∨(ps.length:Int)≠(rulT n).count then [] else
 if (ps.map normF).any (fun f=>decide (f.kind=0)) then [] else Gn (rulT n) (ps.map normF)
def CS(ps:List Fct)(i:Nat):List Fct:=(ps.take i).map normF++List.replicate (ps.length - i) Fct.zero
theorem Jb{ps:List Fct}{i:Nat}(h:i≤ps.length):(CS ps i).length=ps.length:=by
 simp[CS];omega
theorem MZ{ps:List Fct}{i:Nat}(h:i<ps.length):(CS ps i).set i (normF ps[i])=CS ps (i+1):=by
 unfold CS;rw[List.set_append_right _ _ (by simp;omega),AQ h,List.map_append,List.append_assoc]
 congr 1
 rw[show ps.length - i=(ps.length - (i+1))+1 by omega,List.replicate_succ]
 simp[AU (Nat.le_of_lt h)]
theorem U0(ps:List Fct):CS ps ps.length=ps.map normF:=by simp[CS]
theorem Px(n:Nat):rep n [D.int .i64 0,D.slice 0 [],D.bool false,D.slice 0 [],D.slice 0 []]=(List.replicate n Fct.zero).flatMap Fct.ds:=by
 induction n with
 |zero=>rfl
 |succ n ih=>rw[rep,ih,List.replicate_succ,List.flatMap_cons];rfl
theorem Wg{ps:List Fct}{i:Nat}(h:i<ps.length):((CS ps (i+1)).flatMap Fct.ds)[i*5]? =some (.int .i64 (normF ps[i]).kind):=by
 have hl:(CS ps (i+1)).length=ps.length:=Jb h
 have h1:(((CS ps (i+1)).flatMap Fct.ds).drop (i*5)).take 5=(CS ps (i+1))[i].ds:=G1 Fct.ds_len _ i (by omega)
 have h2:(CS ps (i+1))[i]'(by omega)=normF ps[i]:=by
  simp[←MZ h]
 rw[h2]at h1
 have h3:=congrArg (fun l=>l[0]?) h1
 simpa [List.getElem?_take,List.getElem?_drop]using h3
theorem VE(nl:List Fct)(hn: ∀x∈nl,x.Rt)(hnl:nl.length≤1000)(P:List AR)(hP: ∀x∈P,FY x)(hPl:P.length≤90000000000)(y:List A)(rest:List (List A))(hs:(y::rest)<:+P.map DK):
  H8 Tryz.prog 48 y [.ptr 6 0,.ptr 9 0] (CX nl (runF nl [] (P.take (P.length - (y::rest).length)))) (CX nl (runF nl [] (P.take (P.length - rest.length)))):=by
 obtain⟨pre,hpre⟩:=hs
 have hlen:=congrArg List.length hpre;simp only[List.length_append,List.length_cons,List.length_map]at hlen;have hk:pre.length<P.length:=by omega
 have hy:DK P[pre.length]=y:=by
  have h1:(P.map DK)[pre.length]? =some (DK P[pre.length]):=by simp[hk]
  rw[←hpre]at h1
  simpa using h1.symm
 rw[show P.length - (y::rest).length=pre.length by simp only[List.length_cons];omega,show P.length - rest.length=pre.length+1 by omega,AQ hk]
 have e:runF nl [] (P.take pre.length++[P[pre.length]])=G0 nl (runF nl [] (P.take pre.length)) P[pre.length].1 P[pre.length].2:=by
  unfold runF;rw[List.foldl_append];rfl
 rw[e,←hy]
 have hx:=hP _ (Ak hk);have h1:=Ip nl (P.take pre.length) [];rw[AG]at h1;exact jeA nl _ _ _ hx.1 hn hnl (G7 _ [] .nil fun x hx=>hP x (List.mem_of_mem_take hx)) (by simp at h1;omega) hx.2
theorem Zv(n:Int)(ps:List Fct)(hps: ∀f∈ps,f.Mild)(hd:(rulT n).derive= .nilFn)(hcn:(rulT n).count=((rulT n).prem.length:Int))(hl:ps.length≤1099511627776):
  CallsF Tryz.prog 29 [.c (.int .i64 n),.c (AE ps)] (.u (.c (.own 6 (CG n ps).length ((CG n ps).flatMap Fnd.ds)))):=by
 have k1:=Wj n;have hgood:=Ih n;generalize hL:CG n ps=L;unfold CG at hL;generalize rulT n=r at*;simp only[Rul.res,Rul.ds,B9]at k1;rw[hd]at k1;refine Ae (T:=tb) Ad mixed Tryz.func29 rfl (by decide) (Ac rfl) rfl ?_;unfold St.init
 simp -implicitDefEqProofs[jJ,-natCast_add,-natCast_mul,-List.map_set,-List.reduceReplicate];refine Aa k1 ?_;simp -implicitDefEqProofs[jJ,-natCast_add,-natCast_mul,-List.map_set,-List.reduceReplicate];by_cases h0:r.name=[]
 ·rw[if_pos (.inl h0)]at hL
  subst hL;simp -implicitDefEqProofs[jJ,-natCast_add,-natCast_mul,-List.map_set,-List.reduceReplicate,h0]
 by_cases h1:(ps.length:Int)=r.count
 ·rw[if_neg (by simp[h0,h1])]at hL
  obtain⟨nm,pr,cc,gg,cnt,dd⟩:=r
  simp only at*;subst h1;subst hd;simp -implicitDefEqProofs[jJ,-natCast_add,-natCast_mul,-List.map_set,-List.reduceReplicate,h0];refine⟨by omega,?_⟩
  rw[Px]
  refine Av (fun i:Nat=>⟨[(28,vI .i64 i),(27,vI .i64 ps.length),(26,vC (.d (AE ps))),(6,vC (.ptr 6 0)),(5,vC (.ptr 5 0))],
   [(6,.box [.sl 25 0 ps.length]),(25,.row 5 ((CS ps i).flatMap Fct.ds) true),(5,.box [.d (.str (bs nm)),.d (.slice pr.length (pr.flatMap Pat.ds)),.d (.slice cc.length (cc.flatMap Pat.ds)),.d (.slice gg.length (gg.flatMap Pat.ds)),.d (.int .i64 ps.length),.d .nilFn])]⟩)
   (fun i=>i≤ps.length∧ ∀f∈ps.take i,(normF f).kind≠0) (fun i=>ps.length - i) 0 (by simp[An,lk,St.le,vI,vC,CS]) ⟨by omega,by simp⟩ ?_
  rintro i ⟨hi,hz⟩
  by_cases h:i<ps.length
  ·have k2:=LL ps[i] (hps _ (Ak h));have e2:=DO h;have g2:=Wg h;have st:=LU Fct.ds_len (CS ps i) i (normF ps[i]) (by rw[Jb hi];exact h)
   rw[MZ h]at st
   simp only[Fct.ds]at k2 st;simp -implicitDefEqProofs[jJ,-natCast_add,-natCast_mul,-List.map_set,-List.reduceReplicate,h,e2];refine Af (Aj [0,0,0,4,15,31]) [.any [] [] (Ao [[6],[7],[8],[35]]),.one,.one] (by rfl) ?_
   simp -implicitDefEqProofs[jJ,-natCast_add,-natCast_mul,-List.map_set,-List.reduceReplicate];refine Al k2 ?_;simp -implicitDefEqProofs[jJ,-natCast_add,-natCast_mul,-List.map_set,-List.reduceReplicate,Fct.res,h,st,g2];refine⟨by rw[Jb hi];omega,fun hk=> ?_,fun hk=> ?_⟩
   ·rw[if_pos (List.any_eq_true.2 ⟨normF ps[i],jzk.2 ⟨_,Ak h,rfl⟩,by simpa using hk⟩)]at hL
    subst hL;simp
   ·refine⟨by omega,i+1,⟨rfl,rfl⟩,⟨by omega,fun f hf=> ?_⟩,by omega⟩
    rw[AQ h,List.mem_append,List.mem_singleton]at hf
    rcases hf with hf|rfl
    ·exact hz f hf
    ·exact hk
  ·have hi2:i=ps.length:=by omega
   subst hi2;rw[U0];rw[AZ]at hz;have hrt: ∀f∈ps.map normF,f.Rt:=fun f hf=>by
    obtain⟨g,hg,rfl⟩:=jzk.1 hf
    exact Ca (hps g hg) (hz g hg)
   rw[if_neg (by
    rw[List.any_eq_true]
    rintro⟨f,hf,hk⟩
    obtain⟨g,hg,rfl⟩:=jzk.1 hf
    exact hz g hg (by simpa using hk))]at hL
   have hln:ps.length=(ps.map normF).length:=by simp
   rw[hln]at hL hgood hcn ⊢
   generalize ps.map normF=nl at*;have hn3:nl.length≤pr.length:=by omega
   have hP:=Jw _ hgood nl hrt;have hPl:=Vl _ hgood nl hrt (by have:=hgood.lp;simp only at this;omega)
   have kS:=fun x=>jd0 x nl ⟨nm,pr,cc,gg,(nl.length:Int),.nilFn⟩ (Co ⟨nm,pr,cc,gg,(nl.length:Int),.nilFn⟩ nl) hn3 (by have:=hgood.lp;simp only at this;omega) (by have:=hgood.lc;simp only at this ⊢;omega) (by have:=hgood.lg;simp only at this ⊢;omega) (fun p hp=>(hgood.hg p hp).1) hgood.hc (fun j hj b hb=>⟨fun x'=>by
     have e:Co ⟨nm,pr,cc,gg,(nl.length:Int),.nilFn⟩ nl j b=C5 (pr[j]'(by omega)) nl[j] b:=by
      unfold Co;simp only[Ai hj,Ai (show j<pr.length by omega)]
     rw[e]
     exact Zn _ _ (hgood.fit _ (Ak (show j<pr.length by omega))).1 (hrt _ (Ak hj)) b x',fun c hc=>WH _ nl hrt j b hb c hc⟩) Bnd.zero rfl
   rw[show found1 (EZ ⟨nm,pr,cc,gg,(nl.length:Int),.nilFn⟩) (Co ⟨nm,pr,cc,gg,(nl.length:Int),.nilFn⟩ nl) nl.length 0 Bnd.zero=(saysP ⟨nm,pr,cc,gg,(nl.length:Int),.nilFn⟩ nl).map DK from Wd _ _ _ _ _]at kS
   unfold Gn at hL;generalize saysP ⟨nm,pr,cc,gg,(nl.length:Int),.nilFn⟩ nl=P at*;have kC:=VE nl hrt (by have:=hgood.lp;simp only at this;omega) P hP (by omega)
   simp only[Rul.ds,B9]at kS;have hP0:runF nl [] (P.take (P.length - (P.map DK).length))=[]:=by rw[List.length_map,Nat.sub_self];rfl
   have hP1:runF nl [] (P.take (P.length - ([]:List (List A)).length))=runF nl [] P:=by rw[List.length_nil,Nat.sub_zero,AZ]
   have hok:=G7 (nl:=nl) P [] .nil hP;have hlen:=Ip nl P [];simp -implicitDefEqProofs[jJ,-natCast_add,-natCast_mul,-List.map_set,-List.reduceReplicate];refine .inr (.inr (.inr (.inr (.inl (.inl ⟨rfl,[.agg [.d (.str (bs nm)),.d (.slice pr.length (pr.flatMap Pat.ds)),.d (.slice cc.length (cc.flatMap Pat.ds)),.d (.slice gg.length (gg.flatMap Pat.ds)),.d (.int .i64 nl.length),.d .nilFn],.c (.sl 25 0 nl.length)],48,[.ptr 6 0,.ptr 9 0],[.agg [.str (bs nm),.slice pr.length (pr.flatMap Pat.ds),.slice cc.length (cc.flatMap Pat.ds),.slice gg.length (gg.flatMap Pat.ds),.int .i64 nl.length,.nilFn],.c (.slice nl.length (nl.flatMap Fct.ds))],P.map DK,fun rem=>CX nl (runF nl [] (P.take (P.length - rem.length))),[25],[6,9],[80],rfl,?_,kS,kC,?_,?_⟩)))))
   ·simp -implicitDefEqProofs[jJ,-natCast_add,-natCast_mul,-List.map_set,-List.reduceReplicate,U.toA,toD]
   ·dsimp only
    rw[hP0,hP1,Gr]
    clear kC kS k1 hP0 hP1 hL hok hlen;refine⟨by simp,?_,?_,?_,by simp,?_⟩
    ·intro c hc j hj;simp only[jzn,AM,or_false]at hc;rcases hc with rfl|rfl<;>(simp[C.id?]at hj;subst hj;simp)
    ·intro j b hb;simp only[lk]at hb;split at hb
     ·rename_i e
      subst e;cases hb;refine⟨by simp,by simp -implicitDefEqProofs[jJ,-natCast_add,-natCast_mul,-List.map_set,-List.reduceReplicate],?_⟩
      intro c hc k hk;simp at hc;subst hc;simp[C.id?]at hk
     ·split at hb
      ·rename_i e
       subst e;cases hb;refine⟨by simp,by simp -implicitDefEqProofs[jJ,-natCast_add,-natCast_mul,-List.map_set,-List.reduceReplicate],?_⟩
       intro c hc k hk;simp at hc;subst hc;simp[C.id?]at hk
      ·cases hb
    ·intro j hj;simp only[jzn,AM,or_false]at hj;rcases hj with rfl|rfl<;>simp[lk]
    ·intro j b hb;unfold CX at hb;split at hb
     ·simp only[lk]at hb;split at hb
      ·rename_i e;subst e;simp
      ·split at hb
       ·rename_i e;subst e;simp
       ·cases hb
     ·simp only[lk]at hb;split at hb
      ·rename_i e;subst e;simp
      ·split at hb
       ·rename_i e;subst e;simp
       ·split at hb
        ·rename_i e;subst e;simp
        ·cases hb
   ·dsimp only
    rw[hP1]
    generalize runF nl [] P=m at*;by_cases hm:m=[]
    ·subst hm;rw[Gr];have hL0:L=[]:=hL.symm;subst hL0;simp -implicitDefEqProofs[jJ,-natCast_add,-natCast_mul,-List.map_set,-List.reduceReplicate,St.backX,EW];refine Aa Sw ?_;simp -implicitDefEqProofs[jJ,-natCast_add,-natCast_mul,-List.map_set,-List.reduceReplicate]
    ·rw[GC nl hm]
     have q1:=fun i=>WQ i m true (by simp at hlen;omega) hok
     have hlL:L.length=m.length:=by rw[←hL];exact I0 m
     rw[hL]at q1
     simp -implicitDefEqProofs[jJ,-natCast_add,-natCast_mul,-List.map_set,-List.reduceReplicate,St.backX,EW];refine .inr (.inl (Fw (q1 80) (by simp[CW,U.all,C.id?]) (by simp[lk]) ?_))
     simp -implicitDefEqProofs[jJ,-natCast_add,-natCast_mul,-List.map_set,-List.reduceReplicate,St.backW,hlL]
 ·rw[if_pos (.inr h1)]at hL
  subst hL;simp -implicitDefEqProofs[jJ,-natCast_add,-natCast_mul,-List.map_set,-List.reduceReplicate,h0,h1]
end Go.Va
