/- a part of the proof -/
import Derived.Test.YtkajmpgbnbikiaaGreatDoorMaz
import Derived.Test.YtkajmpgbnbikiaaGreatDoorMaw
set_option linter.all false
set_option maxHeartbeats 4000000
set_option maxRecDepth 10000
namespace Go.Va
open Int (natCast_add natCast_mul natCast_emod natCast_ediv natCast_pow)
open Go.Proofs
@[simp]theorem fct_take(l:List Fct):(l.flatMap Fct.ds).take (l.length*5)=l.flatMap Fct.ds:=AH (by rw[R8];omega)
@[simp]theorem jk1(l:List Fct):D.slice l.length (l.flatMap Fct.ds)=Cn l:=rfl
def Cw(n:Int)(ps:List Fct):List Fnd:=
 if (rulT n).name=[]∨(ps.length:Int)≠(rulT n).count then [] else
 if (ps.map normF).any (fun f=>decide (f.kind=0)) then [] else EM (rulT n) (ps.map normF)
def CR(ps:List Fct)(i:Nat):List Fct:=(ps.take i).map normF++List.replicate (ps.length - i) Fct.zero
theorem NF{ps:List Fct}{i:Nat}(h:i≤ps.length):(CR ps i).length=ps.length:=by
 simp[CR];omega
theorem OH{ps:List Fct}{i:Nat}(h:i<ps.length):(CR ps i).set i (normF ps[i])=CR ps (i+1):=by
 unfold CR;rw[List.set_append_right _ _ (by simp;omega),BX h,List.map_append,List.append_assoc]
 congr 1
 rw[show ps.length - i=(ps.length - (i+1))+1 by omega,List.replicate_succ]
 simp[A7 (Nat.le_of_lt h)]
theorem jha(ps:List Fct):CR ps ps.length=ps.map normF:=by simp[CR]
theorem jkA(n:Nat):rep n [D.int .i64 0,D.slice 0 [],D.bool false,D.slice 0 [],D.slice 0 []]=(List.replicate n Fct.zero).flatMap Fct.ds:=by
 induction n with
 |zero=>rfl
 |succ n ih=>rw[rep,ih,List.replicate_succ,List.flatMap_cons];rfl
theorem jec{ps:List Fct}{i:Nat}(h:i<ps.length):((CR ps (i+1)).flatMap Fct.ds)[i*5]? =some (.int .i64 (normF ps[i]).kind):=by
 have hl:(CR ps (i+1)).length=ps.length:=NF h
 have h1:(((CR ps (i+1)).flatMap Fct.ds).drop (i*5)).take 5=(CR ps (i+1))[i].ds:=EO Fct.ds_len _ i (by omega)
 have h2:(CR ps (i+1))[i]'(by omega)=normF ps[i]:=by
  simp[←OH h]
 rw[h2]at h1
 have h3:=congrArg (fun l=>l[0]?) h1
 simpa [List.getElem?_take,List.getElem?_drop]using h3
theorem jiS(nl:List Fct)(hn: ∀x∈nl,x.Rt)(hnl:nl.length≤1000)(P:List CM)(hP: ∀x∈P,Lr x)(hPl:P.length≤90000000000)(y:List A)(rest:List (List A))(hs:(y::rest)<:+P.map Et):
  HE Tryz.prog 191 y [.ptr 6 0,.ptr 9 0] (CD nl (runF nl [] (P.take (P.length - (y::rest).length)))) (CD nl (runF nl [] (P.take (P.length - rest.length)))):=by
 obtain⟨pre,hpre⟩:=hs
 have hlen:=congrArg List.length hpre;simp only[List.length_append,List.length_cons,List.length_map]at hlen;have hk:pre.length<P.length:=by omega
 have hy:Et P[pre.length]=y:=by
  have h1:(P.map Et)[pre.length]? =some (Et P[pre.length]):=by simp[hk]
  rw[←hpre]at h1
  simpa using h1.symm
 rw[show P.length - (y::rest).length=pre.length by simp only[List.length_cons];omega,show P.length - rest.length=pre.length+1 by omega,BX hk]
 have e:runF nl [] (P.take pre.length++[P[pre.length]])=GV nl (runF nl [] (P.take pre.length)) P[pre.length].1 P[pre.length].2:=by
  unfold runF;rw[List.foldl_append];rfl
 rw[e,←hy]
 have hx:=hP _ (AD hk);have h1:=Km nl (P.take pre.length) [];rw[AP]at h1;exact jiD nl _ _ _ hx.1 hn hnl (KW _ [] .nil fun x hx=>hP x (List.mem_of_mem_take hx)) (by simp at h1;omega) hx.2
theorem jeM(n:Int)(ps:List Fct)(hps: ∀f∈ps,f.Mild)(hd:(rulT n).derive= .nilFn)(hcn:(rulT n).count=((rulT n).prem.length:Int))(hl:ps.length≤1099511627776):
  CallsF Tryz.prog 120 [.c (.int .i64 n),.c (Cn ps)] (.u (.c (.own 6 (Cw n ps).length ((Cw n ps).flatMap Fnd.ds)))):=by
 have k1:=Xk n;have hgood:=Lh n;generalize hL:Cw n ps=L;unfold Cw at hL;generalize rulT n=r at*;simp only[Rul.res,Rul.ds,BS]at k1;rw[hd]at k1;refine Ak (T:=tb) Ah mixed Tryz.func120 rfl (by decide) (Af rfl) rfl ?_;unfold St.init
 simp -implicitDefEqProofs[jJ,-natCast_add,-natCast_mul,-List.map_set,-List.reduceReplicate]
 (first|refine Ab k1 ?_|refine Aa k1 ?_)
 simp -implicitDefEqProofs[jJ,-natCast_add,-natCast_mul,-List.map_set,-List.reduceReplicate];by_cases h0:r.name=[]
 ·rw[if_pos (.inl h0)]at hL
  subst hL;simp -implicitDefEqProofs[jJ,-natCast_add,-natCast_mul,-List.map_set,-List.reduceReplicate,h0]
 by_cases h1:(ps.length:Int)=r.count
 ·rw[if_neg (by simp[h0,h1])]at hL
  obtain⟨nm,pr,cc,gg,cnt,dd⟩:=r
  simp only at*;subst h1;subst hd;simp -implicitDefEqProofs[jJ,-natCast_add,-natCast_mul,-List.map_set,-List.reduceReplicate,h0];refine⟨by omega,?_⟩
  rw[jkA]
  refine AF (fun i:Nat=>⟨[(28,vI .i64 i),(27,vI .i64 ps.length),(26,vC (.d (Cn ps))),(6,vC (.ptr 6 0)),(5,vC (.ptr 5 0))],
   [(6,.box [.sl 25 0 ps.length]),(25,.row 5 ((CR ps i).flatMap Fct.ds) true),(5,.box [.d (.str (bs nm)),.d (.slice pr.length (pr.flatMap Pat.ds)),.d (.slice cc.length (cc.flatMap Pat.ds)),.d (.slice gg.length (gg.flatMap Pat.ds)),.d (.int .i64 ps.length),.d .nilFn])]⟩)
   (fun i=>i≤ps.length∧ ∀f∈ps.take i,(normF f).kind≠0) (fun i=>ps.length - i) 0 (by simp[Aw,lk,St.le,vI,vC,CR]) ⟨by omega,by simp⟩ ?_
  rintro i ⟨hi,hz⟩
  by_cases h:i<ps.length
  ·have k2:=Hf ps[i] (hps _ (AD h));have e2:=P0 h;have g2:=jec h;have st:=Mb Fct.ds_len (CR ps i) i (normF ps[i]) (by rw[NF hi];exact h)
   rw[OH h]at st
   simp only[Fct.ds]at k2 st;simp -implicitDefEqProofs[jJ,-natCast_add,-natCast_mul,-List.map_set,-List.reduceReplicate,h,e2];refine At (Ad [0,0,0,4,15,31]) [.any [] [] (Ap [[6],[7],[8],[35]]),.one,.one] (by rfl) ?_
   simp -implicitDefEqProofs[jJ,-natCast_add,-natCast_mul,-List.map_set,-List.reduceReplicate]
   (first|refine Ab k2 ?_|refine Aa k2 ?_)
   simp -implicitDefEqProofs[jJ,-natCast_add,-natCast_mul,-List.map_set,-List.reduceReplicate,Fct.res,h,st,g2];refine⟨by rw[NF hi];omega,fun hk=> ?_,fun hk=> ?_⟩
   ·rw[if_pos (List.any_eq_true.2 ⟨normF ps[i],jzk.2 ⟨_,AD h,rfl⟩,by simpa using hk⟩)]at hL
    subst hL;simp
   ·refine⟨by omega,i+1,⟨rfl,rfl⟩,⟨by omega,fun f hf=> ?_⟩,by omega⟩
    rw[BX h,List.mem_append,List.mem_singleton]at hf
    rcases hf with hf|rfl
    ·exact hz f hf
    ·exact hk
  ·have hi2:i=ps.length:=by omega
   subst hi2;rw[jha];rw[B1]at hz;have hrt: ∀f∈ps.map normF,f.Rt:=fun f hf=>by
    obtain⟨g,hg,rfl⟩:=jzk.1 hf
    exact Iy (hps g hg) (hz g hg)
   rw[if_neg (by
    rw[List.any_eq_true]
    rintro⟨f,hf,hk⟩
    obtain⟨g,hg,rfl⟩:=jzk.1 hf
    exact hz g hg (by simpa using hk))]at hL
   have hln:ps.length=(ps.map normF).length:=by simp
   rw[hln]at hL hgood hcn ⊢
   generalize ps.map normF=nl at*;have hn3:nl.length≤pr.length:=by omega
   have hP:=Qw _ hgood nl hrt;have hPl:=S7 _ hgood nl hrt (by have:=hgood.lp;simp only at this;omega)
   have kS:=fun x=>jkm x nl ⟨nm,pr,cc,gg,(nl.length:Int),.nilFn⟩ (Di ⟨nm,pr,cc,gg,(nl.length:Int),.nilFn⟩ nl) hn3 (by have:=hgood.lp;simp only at this;omega) (by have:=hgood.lc;simp only at this ⊢;omega) (by have:=hgood.lg;simp only at this ⊢;omega) (fun p hp=>(hgood.hg p hp).1) hgood.hc (fun j hj b hb=>⟨fun x'=>by
     have e:Di ⟨nm,pr,cc,gg,(nl.length:Int),.nilFn⟩ nl j b=FR (pr[j]'(by omega)) nl[j] b:=by
      unfold Di;simp only[Am hj,Am (show j<pr.length by omega)]
     rw[e]
     exact jcn _ _ (hgood.fit _ (AD (show j<pr.length by omega))).1 (hrt _ (AD hj)) b x',fun c hc=>Tk _ nl hrt j b hb c hc⟩) Bnd.zero rfl
   rw[show found1 (Eb ⟨nm,pr,cc,gg,(nl.length:Int),.nilFn⟩) (Di ⟨nm,pr,cc,gg,(nl.length:Int),.nilFn⟩ nl) nl.length 0 Bnd.zero=(saysP ⟨nm,pr,cc,gg,(nl.length:Int),.nilFn⟩ nl).map Et from Ou _ _ _ _ _]at kS
   unfold EM at hL;generalize saysP ⟨nm,pr,cc,gg,(nl.length:Int),.nilFn⟩ nl=P at*;have kC:=jiS nl hrt (by have:=hgood.lp;simp only at this;omega) P hP (by omega)
   simp only[Rul.ds,BS]at kS;have hP0:runF nl [] (P.take (P.length - (P.map Et).length))=[]:=by rw[List.length_map,Nat.sub_self];rfl
   have hP1:runF nl [] (P.take (P.length - ([]:List (List A)).length))=runF nl [] P:=by rw[List.length_nil,Nat.sub_zero,B1]
   have hok:=KW (nl:=nl) P [] .nil hP;have hlen:=Km nl P [];simp -implicitDefEqProofs[jJ,-natCast_add,-natCast_mul,-List.map_set,-List.reduceReplicate];refine .inr (.inr (.inr (.inr (.inl (.inl ⟨rfl,[.agg [.d (.str (bs nm)),.d (.slice pr.length (pr.flatMap Pat.ds)),.d (.slice cc.length (cc.flatMap Pat.ds)),.d (.slice gg.length (gg.flatMap Pat.ds)),.d (.int .i64 nl.length),.d .nilFn],.c (.sl 25 0 nl.length)],191,[.ptr 6 0,.ptr 9 0],[.agg [.str (bs nm),.slice pr.length (pr.flatMap Pat.ds),.slice cc.length (cc.flatMap Pat.ds),.slice gg.length (gg.flatMap Pat.ds),.int .i64 nl.length,.nilFn],.c (.slice nl.length (nl.flatMap Fct.ds))],P.map Et,fun rem=>CD nl (runF nl [] (P.take (P.length - rem.length))),[25],[6,9],[80],rfl,?_,kS,kC,?_,?_⟩)))))
   ·simp -implicitDefEqProofs[jJ,-natCast_add,-natCast_mul,-List.map_set,-List.reduceReplicate,U.toA,toD]
   ·dsimp only
    rw[hP0,hP1,Hv]
    clear kC kS k1 hP0 hP1 hL hok hlen;refine⟨by simp,?_,?_,?_,by simp,?_⟩
    ·intro c hc j hj;simp only[jzn,C1,or_false]at hc;rcases hc with rfl|rfl<;>(simp[C.id?]at hj;subst hj;simp)
    ·intro j b hb;simp only[lk]at hb;split at hb
     ·rename_i e
      subst e;cases hb;refine⟨by simp,by simp -implicitDefEqProofs[jJ,-natCast_add,-natCast_mul,-List.map_set,-List.reduceReplicate],?_⟩
      intro c hc k hk;simp at hc;subst hc;simp[C.id?]at hk
     ·split at hb
      ·rename_i e
       subst e;cases hb;refine⟨by simp,by simp -implicitDefEqProofs[jJ,-natCast_add,-natCast_mul,-List.map_set,-List.reduceReplicate],?_⟩
       intro c hc k hk;simp at hc;subst hc;simp[C.id?]at hk
      ·cases hb
    ·intro j hj;simp only[jzn,C1,or_false]at hj;rcases hj with rfl|rfl<;>simp[lk]
    ·intro j b hb;unfold CD at hb;split at hb
     ·simp only[lk]at hb;split at hb
      ·rename_i e;subst e;simp
      ·split at hb
       ·rename_i e;subst e;simp
       ·cases hb
     ·simp only[lk]at hb;split at hb
      ·rename_i e;subst e;simp
      ·split at hb
       ·rename_i e;subst e;simp
       ·split at hb
        ·rename_i e;subst e;simp
        ·cases hb
   ·dsimp only
    rw[hP1]
    generalize runF nl [] P=m at*;by_cases hm:m=[]
    ·subst hm;rw[Hv];have hL0:L=[]:=hL.symm;subst hL0;simp -implicitDefEqProofs[jJ,-natCast_add,-natCast_mul,-List.map_set,-List.reduceReplicate,St.backX,EI]
     (first|refine Ab T8 ?_|refine Aa T8 ?_)
     simp -implicitDefEqProofs[jJ,-natCast_add,-natCast_mul,-List.map_set,-List.reduceReplicate]
    ·rw[Gr nl hm]
     have q1:=fun i=>XB i m true (by simp at hlen;omega) hok
     have hlL:L.length=m.length:=by rw[←hL];exact Lw m
     rw[hL]at q1
     simp -implicitDefEqProofs[jJ,-natCast_add,-natCast_mul,-List.map_set,-List.reduceReplicate,St.backX,EI];refine .inr (.inl (Fh (q1 80) (by simp[CA,U.all,C.id?]) (by simp[lk]) ?_))
     simp -implicitDefEqProofs[jJ,-natCast_add,-natCast_mul,-List.map_set,-List.reduceReplicate,St.backW,hlL]
 ·rw[if_pos (.inr h1)]at hL
  subst hL;simp -implicitDefEqProofs[jJ,-natCast_add,-natCast_mul,-List.map_set,-List.reduceReplicate,h0,h1]
@[simp]theorem Ip(l:List Grd):D.slice l.length (l.flatMap Grd.ds)=Br l:=rfl
theorem FndOk.sub{L M:List Fnd}(h:FndOk L)(hs:M.Sublist L):FndOk M:=⟨fun x hx=>h.rt x (hs.subset hx),fun x hx=>h.sh x (hs.subset hx),h.nd.sublist hs⟩
def Ff(L:List Fnd)(F:Fct):List Grd×Bool:=match L.find? (fun x=>decide (BC x.fact F=0))with|some x=>(x.grds,true)|none=>([],false)
theorem jcC(n:Int)(ps:List Fct)(f:Fct)(hf:f.Mild)(L:List Fnd)(hL:FndOk L)(hln:L.length≤100000000000)(hF:CallsF Tryz.prog 120 [.c (.int .i64 n),.c (Cn ps)] (.u (.c (.d (DV L))))):
  CallsF Tryz.prog 60 [.c (.int .i64 n),.c (Cn ps),.agg f.ds] (.tup (if (normF f).kind=0 then [.c (.d (.slice 0 [])),.c (.d (.bool false))] else [.c (.d (Br (Ff L (normF f)).1)),.c (.d (.bool (Ff L (normF f)).2))])):=by
 have k1:=Hf f hf;have hrt:=Iy (f:=f) hf;simp only[Fct.ds]at k1;generalize normF f=F at*;refine Ak (T:=tb) Ah mixed Tryz.func60 rfl (by decide) (Af rfl) rfl ?_;unfold St.init
 simp -implicitDefEqProofs[jJ,-natCast_add,-natCast_mul,-List.reduceReplicate]
 (first|refine Ab k1 ?_|refine Aa k1 ?_)
 simp -implicitDefEqProofs[jJ,-natCast_add,-natCast_mul,-List.reduceReplicate,Fct.res];refine⟨fun hk=> ?_,fun hk=> ?_⟩
 ·rw[if_pos hk]
  simp -implicitDefEqProofs[jJ,-natCast_add,-natCast_mul,-List.reduceReplicate]
 ·have hrt:=hrt hk;rw[if_neg hk]
  (first|refine Ab hF ?_|refine Aa hF ?_)
  simp -implicitDefEqProofs[jJ,-natCast_add,-natCast_mul,-List.reduceReplicate];refine AF (fun i:Nat=>⟨[(20,vI .i64 i),(19,vI .i64 L.length),(18,vC (.d (DV L))),(8,vC (.ptr 8 0))],[(8,.box [.d (.int .i64 F.kind),.d (intsD F.args),.d (.bool F.neg),.d (Ac F.abs),.d (Ac F.den)])]⟩)
   (fun i=>i≤L.length∧Ff (L.drop i) F=Ff L F) (fun i=>L.length - i) 0 (by simp[Aw,lk,St.le,vI,vC]) ⟨by omega,rfl⟩ ?_
  rintro i ⟨hi,hg⟩
  by_cases h:i<L.length
  ·have e2:=Ro h;have hx:=hL.rt L[i] (AD h);have k2:=Jl L[i].fact F hx.mild hrt.mild hx.num hrt.num;have e:Ff (L.drop i) F=if BC L[i].fact F=0 then (L[i].grds,true) else Ff (L.drop (i+1)) F:=by
    unfold Ff;rw[AX h,List.find?_cons];by_cases h0:BC L[i].fact F=0<;>simp[h0]
   simp only[Fct.ds]at k2;rw[e]at hg;by_cases h0:BC L[i].fact F=0
   ·rw[if_pos h0]at hg
    rw[←hg]
    simp -implicitDefEqProofs[jJ,-natCast_add,-natCast_mul,-List.reduceReplicate,h,e2]
    (first|refine Ab k2 ?_|refine Aa k2 ?_)
    simp -implicitDefEqProofs[jJ,-natCast_add,-natCast_mul,-List.reduceReplicate,h0]
   ·rw[if_neg h0]at hg
    simp -implicitDefEqProofs[jJ,-natCast_add,-natCast_mul,-List.reduceReplicate,h,e2]
    (first|refine Ab k2 ?_|refine Aa k2 ?_)
    simp -implicitDefEqProofs[jJ,-natCast_add,-natCast_mul,-List.reduceReplicate,h0];exact⟨by omega,⟨by omega,hg⟩,by omega⟩
  ·have hi2:i=L.length:=by omega
   subst hi2;have e:Ff L F=([],false):=by rw[←hg,List.drop_length];rfl
   rw[e]
   simp -implicitDefEqProofs[jJ,-natCast_add,-natCast_mul,-List.reduceReplicate,h];rfl
end Go.Va
namespace Go.Va
open Go.Proofs
structure RPat where
 kind:Int
 letters:List UInt8
 seg:Bool
 num:Int
def RPat.ds(p:RPat):List D:=[.int .i64 p.kind,.str (bs p.letters),.bool p.seg,.int .i64 p.num]
theorem RPat.ds_len(p:RPat):p.ds.length=4:=rfl
def LH(l:List RPat):D:= .slice l.length (l.flatMap RPat.ds)
structure Nmz where
 v:List Int
 h:v.length=26
def Nmz.get(n:Nmz)(k:Nat):Int:=n.v.getD k 0
def Nmz.put(n:Nmz)(k:Nat)(x:Int):Nmz:=⟨n.v.set k x,by simp[n.h]⟩
def Nmz.zero:Nmz:=⟨List.replicate 26 (-1),rfl⟩
structure RRul where
 name:List UInt8
 frm:List RPat
 to:List RPat
 guards:List RPat
def RRul.ds(r:RRul):List D:=[.str (bs r.name),LH r.frm,LH r.to,LH r.guards]
def RRul.zero:RRul:=⟨[],[],[],[]⟩
def RRul.res(r:RRul):R:= .u (.agg (r.ds.map .d))


end Go.Va
namespace Go.Va
open Int (natCast_add natCast_mul natCast_emod natCast_ediv natCast_pow)
open Go.Proofs
structure Der where
 fact:Fct
 rule:Int
 frm:List Int
def Der.ds(x:Der):List D:=x.fact.ds++[.int .i64 x.rule,intsD x.frm]
theorem Der.ds_len(x:Der):x.ds.length=7:=rfl
def Fp(l:List Der):D:= .slice l.length (l.flatMap Der.ds)
def Der.Mild(x:Der):Prop:=x.fact.Mild∧x.frm.length≤1000
def Der.part(x:Der)(i:Nat):D:= .iface 64 (x.ds++[.int .i64 i])
def Grd.part(g:Grd)(i:Nat):D:= .iface 67 (g.ds++[.int .i64 i])
theorem jcE(l:List Der)(i:Nat)(h:i<l.length):((l.flatMap Der.ds).drop (i*7)).take 7=l[i].ds:=EO Der.ds_len l i h
theorem jhj(l:List Der)(i:Nat)(h:i<l.length):((l.flatMap Der.ds).map C.d|>.drop (i*7)).take 7=[.d (.int .i64 l[i].fact.kind),.d (intsD l[i].fact.args),.d (.bool l[i].fact.neg),.d (Ac l[i].fact.abs),.d (Ac l[i].fact.den),.d (.int .i64 l[i].rule),.d (intsD l[i].frm)]:=by
 have:=jcE l i h
 rw[←List.map_drop,←List.map_take,this]
 rfl
@[simp high]theorem der_len(l:List Der):(l.flatMap Der.ds).length=l.length*7:=DG Der.ds_len l
def EG(n:Int)(a:Int):Bool:=decide (a<0)||decide (n≤a)
def E1(n:Int)(l:List Int)(k:Nat):Prop:=(l.take k).any (EG n)=false
theorem SQ(n:Int)(l:List Int):E1 n l 0:=by simp[E1]
theorem T0{n:Int}{l:List Int}{k:Nat}(h:k<l.length)(hk:E1 n l k)(h1: ¬l[k]<0)(h2: ¬n≤l[k]):E1 n l (k+1):=by
 unfold E1 at*;rw[BX h,List.any_append,hk];simp[EG,h1,h2]
theorem Qh{n:Int}{l:List Int}(h:E1 n l l.length):l.any (EG n)=false:=by
 unfold E1 at h
 rwa [B1]at h
theorem Ja{n:Int}{l:List Int}{k:Nat}(h:k<l.length)(h1:l[k]<0∨n≤l[k]):l.any (EG n)=true:=List.any_eq_true.2 ⟨_,AD h,by simpa [EG]using h1⟩
def grdN(k:Int):Int:=if k=1 then 2 else if k=2 then 3 else if k=3 then 4 else -1
def errG(n:Int)(g:Grd):Int:=
 if grdN g.kind= -1 then 8 else if (g.args.length:Int)≠grdN g.kind then 1 else if g.args.any (EG n) then 2 else 0
theorem X0(g:Grd)(n:Int)(hg:g.args.length≤1000):CallsF Tryz.prog 20 [.agg g.ds,.c (.int .i64 n)] (.u (.c (.d (.int .i64 (errG n g))))):=by
 obtain⟨k,l⟩:=g
 have hl:l.length≤1000:=hg;clear hg;unfold errG;simp only[Grd.ds];obtain⟨an,han⟩: ∃an,an=l.any (EG n):=⟨_,rfl⟩;rw[←han];refine Ak (T:=tb) Ah mixed Tryz.func20 rfl (by decide) (Af rfl) rfl ?_;unfold St.init
 simp -implicitDefEqProofs[-Ip,jJ,-natCast_add,-natCast_mul,-List.reduceReplicate];by_cases h1:k=1∨k=2∨k=3
 ·rcases h1 with rfl|rfl|rfl
  all_goals
   simp -implicitDefEqProofs[-Ip,jJ,-natCast_add,-natCast_mul,-List.reduceReplicate,grdN];refine⟨fun a b=>absurd b a,fun hm=> ?_⟩
   refine AF (fun k:Nat=>⟨[(24,vI .i64 k),(23,vI .i64 l.length),(22,vC (.d (intsD l))),(1,vI .i64 n)],[]⟩)
    (fun k=>k≤l.length∧E1 n l k) (fun k=>l.length - k) 0 (by simp[-Ip,Aw,lk,St.le,vI,vC]) ⟨by omega,SQ _ _⟩ ?_
   rintro k ⟨hk,hno⟩
   by_cases h:k<l.length
   ·have g0:l[k]? =some l[k]:=Am h
    by_cases h5:l[k]<0
    ·have ha:an=true:=han.trans (Ja h (.inl h5))
     simp -implicitDefEqProofs[-Ip,jJ,-natCast_add,-natCast_mul,-List.reduceReplicate,h,g0,i64,h5,ha];exact hm
    ·by_cases h6:n≤l[k]
     ·have ha:an=true:=han.trans (Ja h (.inr h6))
      simp -implicitDefEqProofs[-Ip,jJ,-natCast_add,-natCast_mul,-List.reduceReplicate,h,g0,i64,h5,h6,ha];exact hm
     ·simp -implicitDefEqProofs[-Ip,jJ,-natCast_add,-natCast_mul,-List.reduceReplicate,h,g0,i64,h5,h6];exact⟨by omega,⟨by omega,T0 h hno h5 h6⟩,by omega⟩
   ·have hk2:k=l.length:=by omega
    subst hk2;have ha:an=false:=han.trans (Qh hno);simp -implicitDefEqProofs[-Ip,jJ,-natCast_add,-natCast_mul,-List.reduceReplicate,ha];exact hm
 ·have e1: ¬k=1:=fun h=>h1 (.inl h)
  have e2: ¬k=2:=fun h=>h1 (.inr (.inl h))
  have e3: ¬k=3:=fun h=>h1 (.inr (.inr h))
  simp -implicitDefEqProofs[-Ip,jJ,-natCast_add,-natCast_mul,-List.reduceReplicate,grdN,e1,e2,e3]
def Ik(x:Der):Bool:=decide (x.frm.length≤20)&&(decide (x.fact.args.length≤20)&&(decide (x.fact.abs.length≤2)&&decide (x.fact.den.length≤2)))
def Ir(g:Grd):Bool:=decide (g.args.length≤20)
def HH(ds:List Der)(gs:List Grd):Bool:=decide (ds.length≤40)&&(decide (gs.length≤20)&&(ds.all Ik&&gs.all Ir))
def EZ{α:Type}(p:α→Bool)(l:List α)(k:Nat):Prop:=(l.take k).all p=true
theorem Us{α:Type}(p:α→Bool)(l:List α):EZ p l 0:=by simp[-Ip,EZ]
theorem TD{α:Type}{p:α→Bool}{l:List α}{k:Nat}(h:k<l.length)(hk:EZ p l k)(h1:p l[k]=true):EZ p l (k+1):=by
 unfold EZ at*;rw[BX h,List.all_append,hk];simp[-Ip,h1]
theorem Qy{α:Type}{p:α→Bool}{l:List α}(h:EZ p l l.length):l.all p=true:=by
 unfold EZ at h
 rwa [B1]at h
theorem Rm{α:Type}{p:α→Bool}{l:List α}{k:Nat}(h:k<l.length)(h1:p l[k]=false):l.all p=false:=by
 rw[Bool.eq_false_iff]
 intro hc;rw[jzy]at hc;rw[hc _ (AD h)]at h1;cases h1
theorem jce(ds:List Der)(gs:List Grd):CallsF Tryz.prog 6 [.agg [Fp ds,Br gs]] (.u (.c (.d (.bool (HH ds gs))))):=by
 obtain⟨r,hr⟩: ∃r,r=HH ds gs:=⟨_,rfl⟩
 rw[←hr]
 unfold HH at hr;refine Ak (T:=tb) Ah mixed Tryz.func6 rfl (by decide) (Af rfl) rfl ?_;unfold St.init
 simp only[Fp,Br]at*;by_cases h40:ds.length≤40
 case neg=>
  have e1:40<ds.length:=by omega
  rw[decide_eq_false h40,Bool.false_and]at hr
  subst hr;simp -implicitDefEqProofs[-Ip,jJ,-natCast_add,-natCast_mul,-List.reduceReplicate,e1]
 by_cases h20:gs.length≤20
 case neg=>
  have e1: ¬40<ds.length:=by omega
  have e2:20<gs.length:=by omega
  rw[decide_eq_false h20,Bool.false_and,Bool.and_false]at hr
  subst hr;simp -implicitDefEqProofs[-Ip,jJ,-natCast_add,-natCast_mul,-List.reduceReplicate,e1,e2]
 have e1: ¬40<ds.length:=by omega
 have e2: ¬20<gs.length:=by omega
 rw[decide_eq_true h40,decide_eq_true h20,Bool.true_and,Bool.true_and]at hr
 simp -implicitDefEqProofs[-Ip,jJ,-natCast_add,-natCast_mul,-List.reduceReplicate,e1,e2];refine AF (fun i:Nat=>⟨[(3,vI .i64 i),(1,vC (.ptr 1 0))],[(1,.box [.d (.slice ds.length (ds.flatMap Der.ds)),.d (.slice gs.length (gs.flatMap Grd.ds))])]⟩)
  (fun i=>i≤ds.length∧EZ Ik ds i) (fun i=>ds.length - i) 0 (by simp[-Ip,Aw,lk,St.le,vI,vC]) ⟨by omega,Us _ _⟩ ?_
 rintro i ⟨hi,he⟩
 by_cases h:i<ds.length
 ·have g:=jhj ds i h;have b1:i*7+7≤ds.length*7:=by omega
  have hs:=fun q=>TD h he q
  have hn:=fun q=>Rm h (p:=Ik) q
  have hX:Ik ds[i]=(decide (ds[i].frm.length≤20)&&(decide (ds[i].fact.args.length≤20)&&(decide (ds[i].fact.abs.length≤2)&&decide (ds[i].fact.den.length≤2)))):=rfl
  clear he;generalize ds[i]=x at*;obtain⟨f,rr,l⟩:=x;simp only at*;by_cases c0:l.length≤20
  ·by_cases c1:f.args.length≤20
   ·by_cases c2:f.abs.length≤2
    ·by_cases c3:f.den.length≤2
     ·have d0: ¬20<l.length:=by omega
      have d1: ¬20<f.args.length:=by omega
      have d2: ¬2<f.abs.length:=by omega
      have d3: ¬2<f.den.length:=by omega
      simp -implicitDefEqProofs[-Ip,jJ,-natCast_add,-natCast_mul,-List.reduceReplicate,h,g,d0,d1,d2,d3];exact⟨by omega,by omega,⟨by omega,hs (by rw[hX];simp[-Ip,c0,c1,c2,c3])⟩,by omega⟩
     ·rw[hn (by rw[hX];simp[-Ip,c3]),Bool.false_and]at hr
      subst hr;have d0: ¬20<l.length:=by omega
      have d1: ¬20<f.args.length:=by omega
      have d2: ¬2<f.abs.length:=by omega
      have d3:2<f.den.length:=by omega
      simp -implicitDefEqProofs[-Ip,jJ,-natCast_add,-natCast_mul,-List.reduceReplicate,h,g,d0,d1,d2,d3];omega
    ·rw[hn (by rw[hX];simp[-Ip,c2]),Bool.false_and]at hr
     subst hr;have d0: ¬20<l.length:=by omega
     have d1: ¬20<f.args.length:=by omega
     have d2:2<f.abs.length:=by omega
     simp -implicitDefEqProofs[-Ip,jJ,-natCast_add,-natCast_mul,-List.reduceReplicate,h,g,d0,d1,d2];omega
   ·rw[hn (by rw[hX];simp[-Ip,c1]),Bool.false_and]at hr
    subst hr;have d0: ¬20<l.length:=by omega
    have d1:20<f.args.length:=by omega
    simp -implicitDefEqProofs[-Ip,jJ,-natCast_add,-natCast_mul,-List.reduceReplicate,h,g,d0,d1];omega
  ·rw[hn (by rw[hX];simp[-Ip,c0]),Bool.false_and]at hr
   subst hr;have d0:20<l.length:=by omega
   simp -implicitDefEqProofs[-Ip,jJ,-natCast_add,-natCast_mul,-List.reduceReplicate,h,g,d0];omega
 ·have hi2:i=ds.length:=by omega
  subst hi2;rw[Qy he,Bool.true_and]at hr;simp -implicitDefEqProofs[-Ip,jJ,-natCast_add,-natCast_mul,-List.reduceReplicate];refine AF (fun i:Nat=>⟨[(5,vI .i64 i),(1,vC (.ptr 1 0))],[(1,.box [.d (.slice ds.length (ds.flatMap Der.ds)),.d (.slice gs.length (gs.flatMap Grd.ds))])]⟩)
   (fun i=>i≤gs.length∧EZ Ir gs i) (fun i=>gs.length - i) 0 (by simp[-Ip,Aw,lk,St.le,vI,vC]) ⟨by omega,Us _ _⟩ ?_
  rintro i ⟨hi,he⟩
  by_cases h:i<gs.length
  ·have g:=Fi gs i h;have b1:i*2+2≤gs.length*2:=by omega
   have hs:=fun q=>TD h he q
   have hn:=fun q=>Rm h (p:=Ir) q
   have g1:(gs.flatMap Grd.ds)[i*2+1]? =some (intsD gs[i].args):=by
    have:=congrArg (fun l:List D=>l[1]?) (Q6 gs i h)
    simpa [List.getElem?_take,List.getElem?_drop,Grd.ds]using this
   have hX:Ir gs[i]=decide (gs[i].args.length≤20):=rfl
   clear he;generalize gs[i]=x at*;obtain⟨k,l⟩:=x;simp only at*;by_cases c0:l.length≤20
   ·have d0: ¬20<l.length:=by omega
    simp -implicitDefEqProofs[-Ip,jJ,-natCast_add,-natCast_mul,-List.reduceReplicate,h,g,g1,d0];exact⟨by omega,⟨by omega,hs (by rw[hX];simp[-Ip,c0])⟩,by omega⟩
   ·rw[hn (by rw[hX];simp[-Ip,c0])]at hr
    subst hr;have d0:20<l.length:=by omega
    simp -implicitDefEqProofs[-Ip,jJ,-natCast_add,-natCast_mul,-List.reduceReplicate,h,g,g1,d0]
  ·have hi2:i=gs.length:=by omega
   subst hi2;rw[Qy he]at hr;subst hr;simp -implicitDefEqProofs[-Ip,jJ,-natCast_add,-natCast_mul,-List.reduceReplicate]
end Go.Va
