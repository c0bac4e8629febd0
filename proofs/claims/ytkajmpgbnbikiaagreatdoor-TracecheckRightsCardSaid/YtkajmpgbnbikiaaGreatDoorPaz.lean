/- a part of the proof -/
import Derived.Test.YtkajmpgbnbikiaaGreatDoorPay
import Derived.Test.YtkajmpgbnbikiaaGreatDoorPav
set_option linter.all false
set_option maxHeartbeats 4000000
set_option maxRecDepth 10000
namespace Go.Va
open Int (natCast_add natCast_mul natCast_emod natCast_ediv natCast_pow)
open Go.Proofs
@[simp]theorem fct_take(l:List Fct):(l.flatMap Fct.ds).take (l.length*5)=l.flatMap Fct.ds:=Bv (by rw[Wp];omega)
@[simp]theorem jpJ(l:List Fct):D.slice l.length (l.flatMap Fct.ds)=BJ l:=rfl
def BU(n:Int)(ps:List Fct):List Fnd:=
 if (rulT n).name=[]∨(ps.length:Int)≠(rulT n).count then [] else
 if (ps.map normF).any (fun f=>decide (f.kind=0)) then [] else DT (rulT n) (ps.map normF)
def Ck(ps:List Fct)(i:Nat):List Fct:=(ps.take i).map normF++List.replicate (ps.length - i) Fct.zero
theorem Ki{ps:List Fct}{i:Nat}(h:i≤ps.length):(Ck ps i).length=ps.length:=by
 simp[Ck];omega
theorem NU{ps:List Fct}{i:Nat}(h:i<ps.length):(Ck ps i).set i (normF ps[i])=Ck ps (i+1):=by
 unfold Ck;rw[List.set_append_right _ _ (by simp;omega),BX h,List.map_append,List.append_assoc]
 congr 1
 rw[show ps.length - i=(ps.length - (i+1))+1 by omega,List.replicate_succ]
 simp[BL (Nat.le_of_lt h)]
theorem XO(ps:List Fct):Ck ps ps.length=ps.map normF:=by simp[Ck]
theorem je8(n:Nat):rep n [D.int .i64 0,D.slice 0 [],D.bool false,D.slice 0 [],D.slice 0 []]=(List.replicate n Fct.zero).flatMap Fct.ds:=by
 induction n with
 |zero=>rfl
 |succ n ih=>rw[rep,ih,List.replicate_succ,List.flatMap_cons];rfl
theorem jiM{ps:List Fct}{i:Nat}(h:i<ps.length):((Ck ps (i+1)).flatMap Fct.ds)[i*5]? =some (.int .i64 (normF ps[i]).kind):=by
 have hl:(Ck ps (i+1)).length=ps.length:=Ki h
 have h1:(((Ck ps (i+1)).flatMap Fct.ds).drop (i*5)).take 5=(Ck ps (i+1))[i].ds:=E2 Fct.ds_len _ i (by omega)
 have h2:(Ck ps (i+1))[i]'(by omega)=normF ps[i]:=by
  simp[←NU h]
 rw[h2]at h1
 have h3:=congrArg (fun l=>l[0]?) h1
 simpa [List.getElem?_take,List.getElem?_drop]using h3
theorem jkN(nl:List Fct)(hn: ∀x∈nl,x.Rt)(hnl:nl.length≤1000)(P:List B9)(hP: ∀x∈P,Kb x)(hPl:P.length≤90000000000)(y:List A)(rest:List (List A))(hs:(y::rest)<:+P.map DH):
  Gy Tryz.prog 191 y [.ptr 6 0,.ptr 9 0] (B7 nl (runF nl [] (P.take (P.length - (y::rest).length)))) (B7 nl (runF nl [] (P.take (P.length - rest.length)))):=by
 obtain⟨pre,hpre⟩:=hs
 have hlen:=congrArg List.length hpre;simp only[List.length_append,List.length_cons,List.length_map]at hlen;have hk:pre.length<P.length:=by omega
 have hy:DH P[pre.length]=y:=by
  have h1:(P.map DH)[pre.length]? =some (DH P[pre.length]):=by simp[hk]
  rw[←hpre]at h1
  simpa using h1.symm
 rw[show P.length - (y::rest).length=pre.length by simp only[List.length_cons];omega,show P.length - rest.length=pre.length+1 by omega,BX hk]
 have e:runF nl [] (P.take pre.length++[P[pre.length]])=FF nl (runF nl [] (P.take pre.length)) P[pre.length].1 P[pre.length].2:=by
  unfold runF;rw[List.foldl_append];rfl
 rw[e,←hy]
 have hx:=hP _ (AK hk);have h1:=Jb nl (P.take pre.length) [];rw[Cj]at h1;exact jnR nl _ _ _ hx.1 hn hnl (HP _ [] .nil fun x hx=>hP x (List.mem_of_mem_take hx)) (by simp at h1;omega) hx.2
theorem jgc(n:Int)(ps:List Fct)(hps: ∀f∈ps,f.Mild)(hd:(rulT n).derive= .nilFn)(hcn:(rulT n).count=((rulT n).prem.length:Int))(hl:ps.length≤1099511627776):
  CallsF Tryz.prog 120 [.c (.int .i64 n),.c (BJ ps)] (.u (.c (.own 6 (BU n ps).length ((BU n ps).flatMap Fnd.ds)))):=by
 have k1:=Re n;have hgood:=Kd n;generalize hL:BU n ps=L;unfold BU at hL;generalize rulT n=r at*;simp only[Rul.res,Rul.ds,Bl]at k1;rw[hd]at k1;refine Aj (T:=tb) Ai mixed Tryz.func120 rfl (by decide) (Ah rfl) rfl ?_;unfold St.init
 simp -implicitDefEqProofs[jJ,-natCast_add,-natCast_mul,-List.map_set,-List.reduceReplicate]
 (first|refine Ab k1 ?_|refine Aa k1 ?_)
 simp -implicitDefEqProofs[jJ,-natCast_add,-natCast_mul,-List.map_set,-List.reduceReplicate];by_cases h0:r.name=[]
 ·rw[if_pos (.inl h0)]at hL
  subst hL;simp -implicitDefEqProofs[jJ,-natCast_add,-natCast_mul,-List.map_set,-List.reduceReplicate,h0]
 by_cases h1:(ps.length:Int)=r.count
 ·rw[if_neg (by simp[h0,h1])]at hL
  obtain⟨nm,pr,cc,gg,cnt,dd⟩:=r
  simp only at*;subst h1;subst hd;simp -implicitDefEqProofs[jJ,-natCast_add,-natCast_mul,-List.map_set,-List.reduceReplicate,h0];refine⟨by omega,?_⟩
  rw[je8]
  refine AA (fun i:Nat=>⟨[(28,vI .i64 i),(27,vI .i64 ps.length),(26,vC (.d (BJ ps))),(6,vC (.ptr 6 0)),(5,vC (.ptr 5 0))],
   [(6,.box [.sl 25 0 ps.length]),(25,.row 5 ((Ck ps i).flatMap Fct.ds) true),(5,.box [.d (.str (bs nm)),.d (.slice pr.length (pr.flatMap Pat.ds)),.d (.slice cc.length (cc.flatMap Pat.ds)),.d (.slice gg.length (gg.flatMap Pat.ds)),.d (.int .i64 ps.length),.d .nilFn])]⟩)
   (fun i=>i≤ps.length∧ ∀f∈ps.take i,(normF f).kind≠0) (fun i=>ps.length - i) 0 (by simp[As,lk,St.le,vI,vC,Ck]) ⟨by omega,by simp⟩ ?_
  rintro i ⟨hi,hz⟩
  by_cases h:i<ps.length
  ·have k2:=Ga ps[i] (hps _ (AK h));have e2:=Vo h;have g2:=jiM h;have st:=Jx Fct.ds_len (Ck ps i) i (normF ps[i]) (by rw[Ki hi];exact h)
   rw[NU h]at st
   simp only[Fct.ds]at k2 st;simp -implicitDefEqProofs[jJ,-natCast_add,-natCast_mul,-List.map_set,-List.reduceReplicate,h,e2];refine Ar (Ac [0,0,0,4,15,31]) [.any [] [] (Ak [[6],[7],[8],[35]]),.one,.one] (by rfl) ?_
   simp -implicitDefEqProofs[jJ,-natCast_add,-natCast_mul,-List.map_set,-List.reduceReplicate]
   (first|refine Ab k2 ?_|refine Aa k2 ?_)
   simp -implicitDefEqProofs[jJ,-natCast_add,-natCast_mul,-List.map_set,-List.reduceReplicate,Fct.res,h,st,g2];refine⟨by rw[Ki hi];omega,fun hk=> ?_,fun hk=> ?_⟩
   ·rw[if_pos (List.any_eq_true.2 ⟨normF ps[i],jzk.2 ⟨_,AK h,rfl⟩,by simpa using hk⟩)]at hL
    subst hL;simp
   ·refine⟨by omega,i+1,⟨rfl,rfl⟩,⟨by omega,fun f hf=> ?_⟩,by omega⟩
    rw[BX h,List.mem_append,List.mem_singleton]at hf
    rcases hf with hf|rfl
    ·exact hz f hf
    ·exact hk
  ·have hi2:i=ps.length:=by omega
   subst hi2;rw[XO];rw[Cq]at hz;have hrt: ∀f∈ps.map normF,f.Rt:=fun f hf=>by
    obtain⟨g,hg,rfl⟩:=jzk.1 hf
    exact Hx (hps g hg) (hz g hg)
   rw[if_neg (by
    rw[List.any_eq_true]
    rintro⟨f,hf,hk⟩
    obtain⟨g,hg,rfl⟩:=jzk.1 hf
    exact hz g hg (by simpa using hk))]at hL
   have hln:ps.length=(ps.map normF).length:=by simp
   rw[hln]at hL hgood hcn ⊢
   generalize ps.map normF=nl at*;have hn3:nl.length≤pr.length:=by omega
   have hP:=RI _ hgood nl hrt;have hPl:=Rr _ hgood nl hrt (by have:=hgood.lp;simp only at this;omega)
   have kS:=fun x=>jhk x nl ⟨nm,pr,cc,gg,(nl.length:Int),.nilFn⟩ (CL ⟨nm,pr,cc,gg,(nl.length:Int),.nilFn⟩ nl) hn3 (by have:=hgood.lp;simp only at this;omega) (by have:=hgood.lc;simp only at this ⊢;omega) (by have:=hgood.lg;simp only at this ⊢;omega) (fun p hp=>(hgood.hg p hp).1) hgood.hc (fun j hj b hb=>⟨fun x'=>by
     have e:CL ⟨nm,pr,cc,gg,(nl.length:Int),.nilFn⟩ nl j b=ED (pr[j]'(by omega)) nl[j] b:=by
      unfold CL;simp only[An hj,An (show j<pr.length by omega)]
     rw[e]
     exact jfu _ _ (hgood.fit _ (AK (show j<pr.length by omega))).1 (hrt _ (AK hj)) b x',fun c hc=>PD _ nl hrt j b hb c hc⟩) Bnd.zero rfl
   rw[show found1 (Do ⟨nm,pr,cc,gg,(nl.length:Int),.nilFn⟩) (CL ⟨nm,pr,cc,gg,(nl.length:Int),.nilFn⟩ nl) nl.length 0 Bnd.zero=(saysP ⟨nm,pr,cc,gg,(nl.length:Int),.nilFn⟩ nl).map DH from T9 _ _ _ _ _]at kS
   unfold DT at hL;generalize saysP ⟨nm,pr,cc,gg,(nl.length:Int),.nilFn⟩ nl=P at*;have kC:=jkN nl hrt (by have:=hgood.lp;simp only at this;omega) P hP (by omega)
   simp only[Rul.ds,Bl]at kS;have hP0:runF nl [] (P.take (P.length - (P.map DH).length))=[]:=by rw[List.length_map,Nat.sub_self];rfl
   have hP1:runF nl [] (P.take (P.length - ([]:List (List A)).length))=runF nl [] P:=by rw[List.length_nil,Nat.sub_zero,Cq]
   have hok:=HP (nl:=nl) P [] .nil hP;have hlen:=Jb nl P [];simp -implicitDefEqProofs[jJ,-natCast_add,-natCast_mul,-List.map_set,-List.reduceReplicate];refine .inr (.inr (.inr (.inr (.inl (.inl ⟨rfl,[.agg [.d (.str (bs nm)),.d (.slice pr.length (pr.flatMap Pat.ds)),.d (.slice cc.length (cc.flatMap Pat.ds)),.d (.slice gg.length (gg.flatMap Pat.ds)),.d (.int .i64 nl.length),.d .nilFn],.c (.sl 25 0 nl.length)],191,[.ptr 6 0,.ptr 9 0],[.agg [.str (bs nm),.slice pr.length (pr.flatMap Pat.ds),.slice cc.length (cc.flatMap Pat.ds),.slice gg.length (gg.flatMap Pat.ds),.int .i64 nl.length,.nilFn],.c (.slice nl.length (nl.flatMap Fct.ds))],P.map DH,fun rem=>B7 nl (runF nl [] (P.take (P.length - rem.length))),[25],[6,9],[80],rfl,?_,kS,kC,?_,?_⟩)))))
   ·simp -implicitDefEqProofs[jJ,-natCast_add,-natCast_mul,-List.map_set,-List.reduceReplicate,U.toA,toD]
   ·dsimp only
    rw[hP0,hP1,FV]
    clear kC kS k1 hP0 hP1 hL hok hlen;refine⟨by simp,?_,?_,?_,by simp,?_⟩
    ·intro c hc j hj;simp only[jzn,CT,or_false]at hc;rcases hc with rfl|rfl<;>(simp[C.id?]at hj;subst hj;simp)
    ·intro j b hb;simp only[lk]at hb;split at hb
     ·rename_i e
      subst e;cases hb;refine⟨by simp,by simp -implicitDefEqProofs[jJ,-natCast_add,-natCast_mul,-List.map_set,-List.reduceReplicate],?_⟩
      intro c hc k hk;simp at hc;subst hc;simp[C.id?]at hk
     ·split at hb
      ·rename_i e
       subst e;cases hb;refine⟨by simp,by simp -implicitDefEqProofs[jJ,-natCast_add,-natCast_mul,-List.map_set,-List.reduceReplicate],?_⟩
       intro c hc k hk;simp at hc;subst hc;simp[C.id?]at hk
      ·cases hb
    ·intro j hj;simp only[jzn,CT,or_false]at hj;rcases hj with rfl|rfl<;>simp[lk]
    ·intro j b hb;unfold B7 at hb;split at hb
     ·simp only[lk]at hb;split at hb
      ·rename_i e;subst e;simp
      ·split at hb
       ·rename_i e;subst e;simp
       ·cases hb
     ·simp only[lk]at hb;split at hb
      ·rename_i e;subst e;simp
      ·split at hb
       ·rename_i e;subst e;simp
       ·split at hb
        ·rename_i e;subst e;simp
        ·cases hb
   ·dsimp only
    rw[hP1]
    generalize runF nl [] P=m at*;by_cases hm:m=[]
    ·subst hm;rw[FV];have hL0:L=[]:=hL.symm;subst hL0;simp -implicitDefEqProofs[jJ,-natCast_add,-natCast_mul,-List.map_set,-List.reduceReplicate,St.backX,Eo]
     (first|refine Ab NG ?_|refine Aa NG ?_)
     simp -implicitDefEqProofs[jJ,-natCast_add,-natCast_mul,-List.map_set,-List.reduceReplicate]
    ·rw[Fz nl hm]
     have q1:=fun i=>jpb i m true (by simp at hlen;omega) hok
     have hlL:L.length=m.length:=by rw[←hL];exact LB m
     rw[hL]at q1
     simp -implicitDefEqProofs[jJ,-natCast_add,-natCast_mul,-List.map_set,-List.reduceReplicate,St.backX,Eo];refine .inr (.inl (IM (q1 80) (by simp[C6,U.all,C.id?]) (by simp[lk]) ?_))
     simp -implicitDefEqProofs[jJ,-natCast_add,-natCast_mul,-List.map_set,-List.reduceReplicate,St.backW,hlL]
 ·rw[if_pos (.inr h1)]at hL
  subst hL;simp -implicitDefEqProofs[jJ,-natCast_add,-natCast_mul,-List.map_set,-List.reduceReplicate,h0,h1]
@[simp]theorem HX(l:List Grd):D.slice l.length (l.flatMap Grd.ds)=AR l:=rfl
theorem FndOk.sub{L M:List Fnd}(h:FndOk L)(hs:M.Sublist L):FndOk M:=⟨fun x hx=>h.rt x (hs.subset hx),fun x hx=>h.sh x (hs.subset hx),h.nd.sublist hs⟩
def D5(L:List Fnd)(F:Fct):List Grd×Bool:=match L.find? (fun x=>decide (Bb x.fact F=0))with|some x=>(x.grds,true)|none=>([],false)
theorem jc3(n:Int)(ps:List Fct)(f:Fct)(hf:f.Mild)(L:List Fnd)(hL:FndOk L)(hln:L.length≤100000000000)(hF:CallsF Tryz.prog 120 [.c (.int .i64 n),.c (BJ ps)] (.u (.c (.d (Dg L))))):
  CallsF Tryz.prog 60 [.c (.int .i64 n),.c (BJ ps),.agg f.ds] (.tup (if (normF f).kind=0 then [.c (.d (.slice 0 [])),.c (.d (.bool false))] else [.c (.d (AR (D5 L (normF f)).1)),.c (.d (.bool (D5 L (normF f)).2))])):=by
 have k1:=Ga f hf;have hrt:=Hx (f:=f) hf;simp only[Fct.ds]at k1;generalize normF f=F at*;refine Aj (T:=tb) Ai mixed Tryz.func60 rfl (by decide) (Ah rfl) rfl ?_;unfold St.init
 simp -implicitDefEqProofs[jJ,-natCast_add,-natCast_mul,-List.reduceReplicate]
 (first|refine Ab k1 ?_|refine Aa k1 ?_)
 simp -implicitDefEqProofs[jJ,-natCast_add,-natCast_mul,-List.reduceReplicate,Fct.res];refine⟨fun hk=> ?_,fun hk=> ?_⟩
 ·rw[if_pos hk]
  simp -implicitDefEqProofs[jJ,-natCast_add,-natCast_mul,-List.reduceReplicate]
 ·have hrt:=hrt hk;rw[if_neg hk]
  (first|refine Ab hF ?_|refine Aa hF ?_)
  simp -implicitDefEqProofs[jJ,-natCast_add,-natCast_mul,-List.reduceReplicate];refine AA (fun i:Nat=>⟨[(20,vI .i64 i),(19,vI .i64 L.length),(18,vC (.d (Dg L))),(8,vC (.ptr 8 0))],[(8,.box [.d (.int .i64 F.kind),.d (intsD F.args),.d (.bool F.neg),.d (Ag F.abs),.d (Ag F.den)])]⟩)
   (fun i=>i≤L.length∧D5 (L.drop i) F=D5 L F) (fun i=>L.length - i) 0 (by simp[As,lk,St.le,vI,vC]) ⟨by omega,rfl⟩ ?_
  rintro i ⟨hi,hg⟩
  by_cases h:i<L.length
  ·have e2:=N4 h;have hx:=hL.rt L[i] (AK h);have k2:=IX L[i].fact F hx.mild hrt.mild hx.num hrt.num;have e:D5 (L.drop i) F=if Bb L[i].fact F=0 then (L[i].grds,true) else D5 (L.drop (i+1)) F:=by
    unfold D5;rw[Be h,List.find?_cons];by_cases h0:Bb L[i].fact F=0<;>simp[h0]
   simp only[Fct.ds]at k2;rw[e]at hg;by_cases h0:Bb L[i].fact F=0
   ·rw[if_pos h0]at hg
    rw[←hg]
    simp -implicitDefEqProofs[jJ,-natCast_add,-natCast_mul,-List.reduceReplicate,h,e2]
    (first|refine Ab k2 ?_|refine Aa k2 ?_)
    simp -implicitDefEqProofs[jJ,-natCast_add,-natCast_mul,-List.reduceReplicate,h0]
   ·rw[if_neg h0]at hg
    simp -implicitDefEqProofs[jJ,-natCast_add,-natCast_mul,-List.reduceReplicate,h,e2]
    (first|refine Ab k2 ?_|refine Aa k2 ?_)
    simp -implicitDefEqProofs[jJ,-natCast_add,-natCast_mul,-List.reduceReplicate,h0];exact⟨by omega,⟨by omega,hg⟩,by omega⟩
  ·have hi2:i=L.length:=by omega
   subst hi2;have e:D5 L F=([],false):=by rw[←hg,List.drop_length];rfl
   rw[e]
   simp -implicitDefEqProofs[jJ,-natCast_add,-natCast_mul,-List.reduceReplicate,h];rfl
theorem X9(n:Int):CallsF Tryz.prog 46 [.c (.int .i64 n)] (.u (.c (.d (.int .i64 (if n=0 then 0 else if (rulT n).name=[] then -1 else (rulT n).count))))):=by
 have k1:=Re n;generalize rulT n=r at*;simp only[Rul.res,Rul.ds,Bl]at k1;refine Aj (T:=tb) Ai mixed Tryz.func46 rfl (by decide) (Ah rfl) rfl ?_;unfold St.init
 by_cases h:n=0
 ·simp -implicitDefEqProofs[jJ,-natCast_add,-natCast_mul,-List.reduceReplicate,h]
 ·simp -implicitDefEqProofs[jJ,-natCast_add,-natCast_mul,-List.reduceReplicate,h]
  (first|refine Ab k1 ?_|refine Aa k1 ?_)
  by_cases h1:r.name=[]
  ·simp -implicitDefEqProofs[jJ,-natCast_add,-natCast_mul,-List.reduceReplicate,h1]
  ·simp -implicitDefEqProofs[jJ,-natCast_add,-natCast_mul,-List.reduceReplicate,h1]
theorem jfB:CallsF Tryz.prog 45 [] (.u (.c (.d (.int .i64 28)))):=by
 refine Aj (T:=tb) Ai mixed Tryz.func45 rfl (by decide) (Ah rfl) rfl ?_;unfold St.init
 simp -implicitDefEqProofs[jJ,-natCast_add,-natCast_mul,-List.reduceReplicate]
end Go.Va
namespace Go.Va
open Go.Proofs
structure RPat where
 kind:Int
 letters:List UInt8
 seg:Bool
 num:Int
def RPat.ds(p:RPat):List D:=[.int .i64 p.kind,.str (bs p.letters),.bool p.seg,.int .i64 p.num]
theorem RPat.ds_len(p:RPat):p.ds.length=4:=rfl
def C0(l:List RPat):D:= .slice l.length (l.flatMap RPat.ds)
structure Nmz where
 v:List Int
 h:v.length=26
def Nmz.get(n:Nmz)(k:Nat):Int:=n.v.getD k 0
def Nmz.put(n:Nmz)(k:Nat)(x:Int):Nmz:=⟨n.v.set k x,by simp[n.h]⟩
def Nmz.zero:Nmz:=⟨List.replicate 26 (-1),rfl⟩
end Go.Va
namespace Go.Va
open Int (natCast_add natCast_mul natCast_emod natCast_ediv natCast_pow)
open Go.Proofs
structure RRul where
 name:List UInt8
 frm:List RPat
 to:List RPat
 guards:List RPat
def RRul.ds(r:RRul):List D:=[.str (bs r.name),C0 r.frm,C0 r.to,C0 r.guards]
def RRul.zero:RRul:=⟨[],[],[],[]⟩
def RRul.res(r:RRul):R:= .u (.agg (r.ds.map .d))
def refN:Nat→RRul
 |1=>⟨[112,97,114,97,108,108,101,108],[⟨2,[115,116],true,0⟩,⟨2,[115,117],true,0⟩],[⟨2,[116,117],true,0⟩],[⟨1,[115],true,0⟩]⟩
 |2=>⟨[112,101,114,112,101,110,100,105,99,117,108,97,114],[⟨2,[115,116],true,0⟩,⟨3,[115,117],true,0⟩],[⟨3,[116,117],true,0⟩],[⟨1,[115],true,0⟩]⟩
 |3=>⟨[110,111,114,109,97,108,115],[⟨3,[115,116],true,0⟩,⟨3,[115,117],true,0⟩],[⟨2,[116,117],true,0⟩],[⟨1,[115],true,0⟩]⟩
 |4=>⟨[108,101,110,103,116,104,115],[⟨9,[115,116],true,0⟩,⟨9,[116,117],true,0⟩],[],[]⟩
 |5=>⟨[109,105,100,112,111,105,110,116],[⟨5,[109,97,98],false,0⟩],[⟨1,[109,97,98],false,0⟩,⟨4,[109,97,109,98],false,0⟩,⟨9,[97,98,109,97],false,4⟩],[]⟩
 |6=>⟨[109,105,100,108,105,110,101],[⟨5,[109,97,98],false,0⟩,⟨5,[110,97,99],false,0⟩],[⟨2,[109,110,98,99],false,0⟩,⟨9,[98,99,109,110],false,4⟩],[]⟩
 |7=>⟨[100,105,97,103,111,110,97,108,115],[⟨5,[109,97,98],false,0⟩,⟨5,[109,99,100],false,0⟩],[⟨2,[97,99,98,100],false,0⟩,⟨4,[97,99,98,100],false,0⟩],[]⟩
 |8=>⟨[117,110,105,113,117,101],[⟨5,[109,97,98],false,0⟩,⟨5,[110,97,98],false,0⟩],[⟨8,[109,110],false,0⟩],[]⟩
 |9=>⟨[115,117,98,115,116,105,116,117,116,105,111,110],[⟨8,[97,98],false,0⟩,⟨0,[],false,0⟩],[],[]⟩
 |10=>⟨[101,113,117,105,100,105,115,116,97,110,116],[⟨4,[112,97,112,98],false,0⟩,⟨4,[113,97,113,98],false,0⟩],[⟨3,[97,98,112,113],false,0⟩],[]⟩
 |11=>⟨[99,105,114,99,108,101],[⟨4,[111,97,111,98],false,0⟩,⟨4,[111,97,111,99],false,0⟩,⟨4,[111,97,111,100],false,0⟩],[⟨6,[97,98,99,100],false,0⟩],[]⟩
 |12=>⟨[99,111,110,99,121,99,108,105,99],[⟨6,[97,98,99,100],false,0⟩,⟨6,[97,98,99,101],false,0⟩],[⟨6,[97,98,100,101],false,0⟩],[⟨2,[97,98,99],false,0⟩]⟩
 |13=>⟨[105,110,115,99,114,105,98,101,100],[⟨6,[97,98,99,100],false,0⟩],[⟨7,[99,97,99,98,100,97,100,98],false,0⟩],[]⟩
 |14=>⟨[97,114,99],[⟨7,[99,97,99,98,100,97,100,98],false,0⟩],[⟨6,[97,98,99,100],false,0⟩],[]⟩
 |15=>⟨[115,117,109,115],[⟨7,[117,115,116,118],true,0⟩,⟨7,[115,119,120,116],true,0⟩],[⟨7,[117,119,120,118],true,0⟩],[⟨1,[115],true,0⟩,⟨1,[116],true,0⟩]⟩
 |16=>⟨[100,105,102,102,101,114,101,110,99,101,115],[⟨7,[115,116,117,118],true,0⟩,⟨7,[115,116,119,120],true,0⟩],[⟨7,[119,117,120,118],true,0⟩],[⟨1,[115],true,0⟩,⟨1,[116],true,0⟩]⟩
 |17=>⟨[100,105,114,101,99,116,105,111,110,115],[⟨7,[115,117,118,119],true,0⟩,⟨2,[115,116],true,0⟩],[⟨7,[116,117,118,119],true,0⟩],[⟨1,[115],true,0⟩]⟩
 |18=>⟨[100,105,97,109,101,116,101,114],[⟨3,[99,97,99,98],false,0⟩,⟨3,[100,97,100,98],false,0⟩],[⟨6,[97,98,99,100],false,0⟩],[]⟩
 |19=>⟨[99,97,110,99,101,108],[⟨7,[115,115,116,117],true,0⟩],[⟨2,[116,117],true,0⟩],[⟨1,[115],true,0⟩]⟩
 |20=>⟨[114,105,103,104,116],[⟨7,[115,116,117,118],true,0⟩,⟨3,[115,116],true,0⟩],[⟨3,[117,118],true,0⟩],[⟨1,[115],true,0⟩,⟨1,[116],true,0⟩]⟩
 |21=>⟨[105,115,111,115,99,101,108,101,115],[⟨4,[111,97,111,98],false,0⟩],[⟨7,[111,97,97,98,97,98,111,98],false,0⟩],[]⟩
 |22=>⟨[98,97,115,101],[⟨7,[111,97,97,98,97,98,111,98],false,0⟩],[⟨4,[111,97,111,98],false,0⟩],[⟨2,[111,97,98],false,0⟩]⟩
 |23=>⟨[116,104,97,108,101,115],[⟨5,[111,97,98],false,0⟩,⟨4,[111,97,111,99],false,0⟩],[⟨3,[99,97,99,98],false,0⟩],[]⟩
 |24=>⟨[104,121,112,111,116,101,110,117,115,101],[⟨5,[109,97,98],false,0⟩,⟨3,[99,97,99,98],false,0⟩],[⟨4,[109,97,109,99],false,0⟩],[]⟩
 |25=>⟨[98,105,115,101,99,116,111,114],[⟨5,[109,97,98],false,0⟩,⟨3,[109,99,97,98],false,0⟩],[⟨4,[99,97,99,98],false,0⟩],[]⟩
 |26=>⟨[115,105,100,101],[⟨5,[109,97,98],false,0⟩,⟨2,[109,110,98,99],false,0⟩,⟨1,[97,110,99],false,0⟩],[⟨5,[110,97,99],false,0⟩],[⟨2,[97,98,99],false,0⟩]⟩
 |27=>⟨[112,97,114,97,108,108,101,108,111,103,114,97,109],[⟨2,[97,98,99,100],false,0⟩,⟨2,[97,99,98,100],false,0⟩],[⟨4,[97,98,99,100],false,0⟩,⟨4,[97,99,98,100],false,0⟩],[⟨2,[97,98,99],false,0⟩]⟩
 |28=>⟨[109,105,100,100,108,101],[⟨1,[109,97,98],false,0⟩,⟨4,[109,97,109,98],false,0⟩],[⟨5,[109,97,98],false,0⟩],[⟨1,[97,98],false,0⟩]⟩
 |_=> .zero
theorem DW(k:Int)(s:ByteArray):CallsF Tryz.prog 168 [.c (.int .i64 k),.c (.str s)] (.u (.agg [.d (.int .i64 k),.d (.str s),.d (.bool true),.d (.int .i64 0)])):=by
 refine Aj (T:=tb) Ai mixed Tryz.func168 rfl (by decide) (Ah rfl) rfl ?_;unfold St.init
 simp -implicitDefEqProofs[jJ,-natCast_add,-natCast_mul]
theorem El(k:Int)(s:ByteArray):CallsF Tryz.prog 169 [.c (.int .i64 k),.c (.str s)] (.u (.agg [.d (.int .i64 k),.d (.str s),.d (.bool false),.d (.int .i64 0)])):=by
 refine Aj (T:=tb) Ai mixed Tryz.func169 rfl (by decide) (Ah rfl) rfl ?_;unfold St.init
 simp -implicitDefEqProofs[jJ,-natCast_add,-natCast_mul]
theorem Io(s:ByteArray):CallsF Tryz.prog 170 [.c (.str s)] (.u (.agg [.d (.int .i64 9),.d (.str s),.d (.bool false),.d (.int .i64 4)])):=by
 refine Aj (T:=tb) Ai mixed Tryz.func170 rfl (by decide) (Ah rfl) rfl ?_;unfold St.init
 simp -implicitDefEqProofs[jJ,-natCast_add,-natCast_mul]
theorem jmQ(n:Int):CallsF Tryz.prog 107 [.c (.int .i64 n)] (RRul.res (if 1≤n∧n≤14 then refN n.toNat else .zero)):=by
 refine Aj (T:=tb) Ai mixed Tryz.func107 rfl (by decide) (Ah rfl) rfl ?_;unfold St.init
 simp -implicitDefEqProofs[jJ,-natCast_add,-natCast_mul]
 repeat ((first|refine .inl ⟨_,DW _ _,?_⟩|refine .inl ⟨_,El _ _,?_⟩);simp -implicitDefEqProofs[jJ,-natCast_add,-natCast_mul])
 by_cases h1:n=1
 rotate_left
 by_cases h2:n=2
 rotate_left
 by_cases h3:n=3
 rotate_left
 by_cases h4:n=4
 rotate_left
 by_cases h5:n=5
 rotate_left
 by_cases h6:n=6
 rotate_left
 by_cases h7:n=7
 rotate_left
 by_cases h8:n=8
 rotate_left
 by_cases h9:n=9
 rotate_left
 by_cases h10:n=10
 rotate_left
 by_cases h11:n=11
 rotate_left
 by_cases h12:n=12
 rotate_left
 by_cases h13:n=13
 rotate_left
 by_cases h14:n=14
 rotate_left
 have hz: ¬(1≤n∧n≤14):=by omega
 rw[if_neg hz]
 simp -implicitDefEqProofs[jJ,-natCast_add,-natCast_mul,h1,h2,h3,h4,h5,h6,h7,h8,h9,h10,h11,h12,h13,h14]
 try simp[RRul.res,RRul.ds,RRul.zero,C0,bs]
 try rfl
 all_goals
  subst n;simp -implicitDefEqProofs[jJ,-natCast_add,-natCast_mul]
  repeat ((first|refine .inl ⟨_,DW _ _,?_⟩|refine .inl ⟨_,El _ _,?_⟩|refine .inl ⟨_,Io _,?_⟩);simp -implicitDefEqProofs[jJ,-natCast_add,-natCast_mul])
  try simp[RRul.res,RRul.ds,refN,C0,RPat.ds,bs]
  try rfl
theorem jmR(n:Int):CallsF Tryz.prog 108 [.c (.int .i64 n)] (RRul.res (if 15≤n∧n≤28 then refN n.toNat else .zero)):=by
 refine Aj (T:=tb) Ai mixed Tryz.func108 rfl (by decide) (Ah rfl) rfl ?_;unfold St.init
 simp -implicitDefEqProofs[jJ,-natCast_add,-natCast_mul]
 repeat ((first|refine .inl ⟨_,DW _ _,?_⟩|refine .inl ⟨_,El _ _,?_⟩);simp -implicitDefEqProofs[jJ,-natCast_add,-natCast_mul])
 by_cases h15:n=15
 rotate_left
 by_cases h16:n=16
 rotate_left
 by_cases h17:n=17
 ·subst h17;simp -implicitDefEqProofs[jJ,-natCast_add,-natCast_mul];refine Ar (Ac [0,1,3,3,11,0,32,127,255]) [.any [] [30,32] [⟨0,[],[],[30,32],[]⟩,⟨0,[],[],[30,32],[]⟩,⟨1,[28,29],[32],[32],[]⟩,⟨0,[],[30],[30,32],[]⟩,⟨1,[31],[30],[30],[]⟩,⟨0,[3],[30,32],[30,32],[]⟩,⟨0,[33],[30,32],[30,32],[]⟩],.one,.one] (by rfl) ?_
  simp -implicitDefEqProofs[jJ,-natCast_add,-natCast_mul]
  repeat ((first|refine .inl ⟨_,DW _ _,?_⟩|refine .inl ⟨_,El _ _,?_⟩|refine .inl ⟨_,Io _,?_⟩|refine⟨_,DW _ _,?_⟩|refine⟨_,El _ _,?_⟩);simp -implicitDefEqProofs[jJ,-natCast_add,-natCast_mul])
  try simp[RRul.res,RRul.ds,refN,C0,RPat.ds,bs]
  try rfl
 by_cases h18:n=18
 rotate_left
 by_cases h19:n=19
 ·subst h19;simp -implicitDefEqProofs[jJ,-natCast_add,-natCast_mul];refine Ar (Ac [0,1,1,5,0,16,63,127]) [.any [] [47,49] [⟨0,[],[],[47,49],[]⟩,⟨1,[46],[49],[49],[]⟩,⟨0,[],[47],[47,49],[]⟩,⟨1,[48],[47],[47],[]⟩,⟨0,[3],[47,49],[47,49],[]⟩,⟨0,[50],[47,49],[47,49],[]⟩],.one,.one] (by rfl) ?_
  simp -implicitDefEqProofs[jJ,-natCast_add,-natCast_mul]
  repeat ((first|refine .inl ⟨_,DW _ _,?_⟩|refine .inl ⟨_,El _ _,?_⟩|refine .inl ⟨_,Io _,?_⟩|refine⟨_,DW _ _,?_⟩|refine⟨_,El _ _,?_⟩);simp -implicitDefEqProofs[jJ,-natCast_add,-natCast_mul])
  try simp[RRul.res,RRul.ds,refN,C0,RPat.ds,bs]
  try rfl
 by_cases h20:n=20
 rotate_left
 by_cases h21:n=21
 rotate_left
 by_cases h22:n=22
 rotate_left
 by_cases h23:n=23
 rotate_left
 by_cases h24:n=24
 rotate_left
 by_cases h25:n=25
 rotate_left
 by_cases h26:n=26
 rotate_left
 by_cases h27:n=27
 rotate_left
 by_cases h28:n=28
 rotate_left
 have hz: ¬(15≤n∧n≤28):=by omega
 rw[if_neg hz]
 simp -implicitDefEqProofs[jJ,-natCast_add,-natCast_mul,h15,h16,h17,h18,h19,h20,h21,h22,h23,h24,h25,h26,h27,h28]
 try simp[RRul.res,RRul.ds,RRul.zero,C0,bs]
 try rfl
 all_goals
  subst n;simp -implicitDefEqProofs[jJ,-natCast_add,-natCast_mul]
  repeat ((first|refine .inl ⟨_,DW _ _,?_⟩|refine .inl ⟨_,El _ _,?_⟩|refine .inl ⟨_,Io _,?_⟩|refine⟨_,DW _ _,?_⟩|refine⟨_,El _ _,?_⟩);simp -implicitDefEqProofs[jJ,-natCast_add,-natCast_mul])
  try simp[RRul.res,RRul.ds,refN,C0,RPat.ds,bs]
  try rfl
theorem jai(n:Nat)(h:28<n):refN n= .zero:=by
 unfold refN;split<;>first|omega|rfl
theorem jgy(n:Int):CallsF Tryz.prog 51 [.c (.int .i64 n)] (refN n.toNat).res:=by
 refine Aj (T:=tb) Ai mixed Tryz.func51 rfl (by decide) (Ah rfl) rfl ?_;unfold St.init
 by_cases h:n≤14
 ·have k:=jmQ n;have e:(if 1≤n∧n≤14 then refN n.toNat else RRul.zero)=refN n.toNat:=by
   split
   ·rfl
   ·rw[show n.toNat=0 by omega];rfl
  rw[e]at k
  generalize refN n.toNat=r at*;simp only[RRul.res,RRul.ds,C0]at*;simp -implicitDefEqProofs[jJ,-natCast_add,-natCast_mul,h]
  (first|refine Ab k ?_|refine Aa k ?_)
  simp -implicitDefEqProofs[jJ,-natCast_add,-natCast_mul]
 ·have k:=jmR n;have e:(if 15≤n∧n≤28 then refN n.toNat else RRul.zero)=refN n.toNat:=by
   split
   ·rfl
   ·rw[jai n.toNat (by omega)]
  rw[e]at k
  generalize refN n.toNat=r at*;simp only[RRul.res,RRul.ds,C0]at*;simp -implicitDefEqProofs[jJ,-natCast_add,-natCast_mul,h]
  (first|refine Ab k ?_|refine Aa k ?_)
  simp -implicitDefEqProofs[jJ,-natCast_add,-natCast_mul]
theorem X1(n:Int):CallsF Tryz.prog 22 [.c (.int .i64 n)] (.u (.c (.d (.int .i64 (if n<0∨28<n then -1 else ((refN n.toNat).frm.length:Int)))))):=by
 have k1:=jgy n;generalize refN n.toNat=r at*;simp only[RRul.res,RRul.ds,C0]at k1;refine Aj (T:=tb) Ai mixed Tryz.func22 rfl (by decide) (Ah rfl) rfl ?_;unfold St.init
 by_cases h:n<0
 ·simp -implicitDefEqProofs[jJ,-natCast_add,-natCast_mul,-List.reduceReplicate,h]
 ·by_cases h2:28<n
  ·simp -implicitDefEqProofs[jJ,-natCast_add,-natCast_mul,-List.reduceReplicate,h,h2]
  ·simp -implicitDefEqProofs[jJ,-natCast_add,-natCast_mul,-List.reduceReplicate,h,h2]
   (first|refine Ab k1 ?_|refine Aa k1 ?_)
   simp -implicitDefEqProofs[jJ,-natCast_add,-natCast_mul,-List.reduceReplicate]
theorem jfQ: ∀n:Fin 29,(AT n).name=(refN n).name∧(n≠0→(AT n).name≠[]∧(AT n).count+(AT n).prem.length=(refN n).frm.length):=by decide+kernel
theorem UQ(n:Int):(if n=0 then 0 else if (rulT n).name=[] then -1 else (rulT n).count)=(if n<0∨28<n then -1 else ((refN n.toNat).frm.length:Int)):=by
 by_cases h0:n=0
 ·subst h0;rfl
 rw[if_neg h0]
 by_cases h1:n<0∨28<n
 ·rw[if_pos h1]
  have:(rulT n).name=[]:=by
   show(AT n.toNat).name=[]
   rcases h1 with h1|h1
   ·rw[show n.toNat=0 by omega];rfl
   ·rw[JD _ (by omega)];rfl
  rw[if_pos this]
 ·have h:=jfQ ⟨n.toNat,by omega⟩
  have h2:=h.2 (by
   intro e;have:=congrArg Fin.val e;simp at this;omega)
  have h3:(rulT n).name≠[]:=h2.1;rw[if_neg h1,if_neg h3];exact h2.2
end Go.Va
