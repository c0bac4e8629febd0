/- a part of the proof -/
import Derived.Test.YtkfdniccmcolgaaGreatWbj
import Derived.Test.YtkfdniccmcolgaaGreatWbb
import Derived.Test.YtkfdniccmcolgaaGreatWbc
set_option linter.all false
set_option maxHeartbeats 4000000
set_option maxRecDepth 10000
namespace Go.Va
open Int (natCast_add natCast_mul natCast_emod natCast_ediv natCast_pow)
open Go.Proofs
theorem jgI(x:Value)(f:Fct):Bp Tryz.prog x 55 (Di f++[.c (.ref [.lit x])]) [DK (f,[])]:=by
 simp only[Di,List.cons_append,List.nil_append];refine Cz (T:=tb) Ad mixed Tryz.func55 rfl (by decide) (Ac rfl) rfl rfl ?_;intro rest;unfold St.initY
 simp only[Fct.ds];simp -implicitDefEqProofs[jJ,-natCast_add,-natCast_mul,-List.map_set,-List.reduceReplicate];refine⟨_,rest,by simp[lk];rfl,by simp[DK,grdsD,St.argsW,U.toA,toD,lk],?_⟩
 simp -implicitDefEqProofs[jJ,-natCast_add,-natCast_mul,-List.map_set,-List.reduceReplicate,St.reachU,A6,St.backY,St.rest,BH]
def Cl(Y:List Fct→List Fct)(n:Int)(ps:List Fct):List Fnd:=
 if (rulT n).name=[]∨(ps.length:Int)≠(rulT n).count then [] else
 if (ps.map normF).any (fun f=>decide (f.kind=0)) then [] else CU DH (runF (ps.map normF) [] ((Y (ps.map normF)).map fun f=>(f,[])))
theorem RF(n:Int)(G:Nat)(Y:List Fct→List Fct)(ps:List Fct)(hps: ∀f∈ps,f.Mild)(hd:(rulT n).derive= .fn G [])(hl:ps.length≤1000)
  (hY:(ps.length:Int)=(rulT n).count→(∀f∈ps,(normF f).kind≠0)→(∀x',Bp Tryz.prog x' G [.c (fctsD (ps.map normF)),.c (.lit x')] ((Y (ps.map normF)).map Di))∧(∀f∈Y (ps.map normF),f.Mild)∧(Y (ps.map normF)).length≤1000):
  CallsF Tryz.prog 29 [.c (.int .i64 n),.c (fctsD ps)] (.u (.c (.own 6 (Cl Y n ps).length ((Cl Y n ps).flatMap Fnd.ds)))):=by
 have k1:=Wj n;generalize hL:Cl Y n ps=L;unfold Cl at hL;generalize rulT n=r at*;simp only[Rul.res,Rul.ds,B9]at k1;rw[hd]at k1;refine Ae (T:=tb) Ad mixed Tryz.func29 rfl (by decide) (Ac rfl) rfl ?_;unfold St.init
 simp -implicitDefEqProofs[jJ,-natCast_add,-natCast_mul,-List.map_set,-List.reduceReplicate];refine Aa k1 ?_;simp -implicitDefEqProofs[jJ,-natCast_add,-natCast_mul,-List.map_set,-List.reduceReplicate];by_cases h0:r.name=[]
 ·rw[if_pos (.inl h0)]at hL
  subst hL;simp -implicitDefEqProofs[jJ,-natCast_add,-natCast_mul,-List.map_set,-List.reduceReplicate,h0]
 by_cases h1:(ps.length:Int)=r.count
 ·rw[if_neg (by simp[h0,h1])]at hL
  replace hY:=hY h1
  obtain⟨nm,pr,cc,gg,cnt,dd⟩:=r
  simp only at*;subst h1;subst hd;simp -implicitDefEqProofs[jJ,-natCast_add,-natCast_mul,-List.map_set,-List.reduceReplicate,h0];refine⟨by omega,?_⟩
  rw[Px]
  refine Av (fun i:Nat=>⟨[(28,vI .i64 i),(27,vI .i64 ps.length),(26,vC (.d (fctsD ps))),(6,vC (.ptr 6 0)),(5,vC (.ptr 5 0))],
   [(6,.box [.sl 25 0 ps.length]),(25,.row 5 ((CS ps i).flatMap Fct.ds) true),(5,.box [.d (.str (bs nm)),.d (.slice pr.length (pr.flatMap Pat.ds)),.d (.slice cc.length (cc.flatMap Pat.ds)),.d (.slice gg.length (gg.flatMap Pat.ds)),.d (.int .i64 ps.length),.d (.fn G [])])]⟩)
   (fun i=>i≤ps.length∧ ∀f∈ps.take i,(normF f).kind≠0) (fun i=>ps.length - i) 0 (by simp[An,lk,St.le,vI,vC,CS]) ⟨by omega,by simp⟩ ?_
  rintro i ⟨hi,hz⟩
  by_cases h:i<ps.length
  ·have k2:=LL ps[i] (hps _ (Ak h));have e2:=DO h;have g2:=Wg h;have st:=LU Fct.ds_len (CS ps i) i (normF ps[i]) (by rw[Jb hi];exact h)
   rw[MZ h]at st
   simp only[Fct.ds]at k2 st;simp -implicitDefEqProofs[jJ,-natCast_add,-natCast_mul,-List.map_set,-List.reduceReplicate,h,e2];refine Af (Aj [0,0,0,4,15,31]) [.any [] [] (Ao [[6],[7],[8],[35]]),.one,.one] (by rfl) ?_
   simp -implicitDefEqProofs[jJ,-natCast_add,-natCast_mul,-List.map_set,-List.reduceReplicate];refine Al k2 ?_;simp -implicitDefEqProofs[jJ,-natCast_add,-natCast_mul,-List.map_set,-List.reduceReplicate,Fct.res,h,st,g2];refine⟨by rw[Jb hi];omega,fun hk=> ?_,fun hk=> ?_⟩
   ·rw[if_pos (List.any_eq_true.2 ⟨normF ps[i],jzk.2 ⟨_,Ak h,rfl⟩,by simpa using hk⟩)]at hL
    subst hL;simp
   ·refine⟨by omega,i+1,⟨rfl,rfl⟩,⟨by omega,fun f hf=> ?_⟩,by omega⟩
    rw[AQ h,List.mem_append,List.mem_singleton]at hf
    rcases hf with hf|rfl
    ·exact hz f hf
    ·exact hk
  ·have hi2:i=ps.length:=by omega
   subst hi2;rw[U0];rw[AZ]at hz;have hrt: ∀f∈ps.map normF,f.Rt:=fun f hf=>by
    obtain⟨g,hg,rfl⟩:=jzk.1 hf
    exact Ca (hps g hg) (hz g hg)
   rw[if_neg (by
    rw[List.any_eq_true]
    rintro⟨f,hf,hk⟩
    obtain⟨g,hg,rfl⟩:=jzk.1 hf
    exact hz g hg (by simpa using hk))]at hL
   obtain⟨kS,hYm,hYl⟩:=hY hz
   have hln:ps.length=(ps.map normF).length:=by simp
   have hn3:(ps.map normF).length≤1000:=by simp;omega
   rw[hln]
   generalize ps.map normF=nl at*;generalize hPd:(Y nl).map (fun f=>((f,[]):AR))=P at*
   have hP: ∀x∈P,FY x:=by
    rw[←hPd]
    intro x hx;obtain⟨f,hf,rfl⟩:=jzk.1 hx;exact⟨hYm f hf,by simp,by simp⟩
   have hPl:P.length≤1000:=by rw[←hPd];simpa using hYl
   have hys:((Y nl).map Di).flatMap (fun y=>[y++[.c (grdsD [])]])=P.map DK:=by
    rw[←hPd]
    generalize Y nl=l
    induction l with
    |nil=>rfl
    |cons f l ih=>simp only[List.map_cons,List.flatMap_cons,ih];rfl
   have kZ: ∀(x:Value) (y:List A),y∈(Y nl).map Di→Bp Tryz.prog x 55 (y++[.c (.ref [.lit x])]) [y++[.c (grdsD [])]]:=by
    intro x y hy;obtain⟨f,hf,rfl⟩:=jzk.1 hy;exact jgI x f
   have kC:=VE nl hrt hn3 P hP (by omega)
   have hP0:runF nl [] (P.take (P.length - (P.map DK).length))=[]:=by rw[List.length_map,Nat.sub_self];rfl
   have hP1:runF nl [] (P.take (P.length - ([]:List (List A)).length))=runF nl [] P:=by rw[List.length_nil,Nat.sub_zero,AZ]
   have hok:=G7 (nl:=nl) P [] .nil hP;have hlen:=Ip nl P [];simp only[fctsD]at kS;simp -implicitDefEqProofs[jJ,-natCast_add,-natCast_mul,-List.map_set,-List.reduceReplicate];refine .inr (.inr (.inr (.inr (.inl (.inr (.inl ⟨rfl,[.c (.sl 25 0 nl.length)],55,10,48,[.ptr 6 0,.ptr 9 0],[.c (.slice nl.length (nl.flatMap Fct.ds))],(Y nl).map Di,fun y=>[y++[.c (grdsD [])]],fun rem=>CX nl (runF nl [] (P.take (P.length - rem.length))),[25,10],[6,9],[80],rfl,by simp[lk],by simp,?_,kS,kZ,by rw[hys];exact kC,?_,?_⟩))))))
   ·simp -implicitDefEqProofs[jJ,-natCast_add,-natCast_mul,-List.map_set,-List.reduceReplicate,U.toA,toD]
   ·rw[hys]
    dsimp only
    rw[hP0,hP1,Gr]
    clear kC kS kZ k1 hP0 hP1 hL hok hlen hys;refine⟨by simp,?_,?_,?_,by simp,?_⟩
    ·intro c hc j hj;simp only[jzn,AM,or_false]at hc;rcases hc with rfl|rfl<;>(simp[C.id?]at hj;subst hj;simp)
    ·intro j b hb;simp only[lk]at hb;split at hb
     ·rename_i e
      subst e;cases hb;refine⟨by simp,by simp -implicitDefEqProofs[jJ,-natCast_add,-natCast_mul,-List.map_set,-List.reduceReplicate],?_⟩
      intro c hc k hk;simp at hc;subst hc;simp[C.id?]at hk
     ·split at hb
      ·rename_i e
       subst e;cases hb;refine⟨by simp,by simp -implicitDefEqProofs[jJ,-natCast_add,-natCast_mul,-List.map_set,-List.reduceReplicate],?_⟩
       intro c hc k hk;simp at hc;subst hc;simp[C.id?]at hk
      ·cases hb
    ·intro j hj;simp only[jzn,AM,or_false]at hj;rcases hj with rfl|rfl<;>simp[lk]
    ·intro j b hb;unfold CX at hb;split at hb
     ·simp only[lk]at hb;split at hb
      ·rename_i e;subst e;simp
      ·split at hb
       ·rename_i e;subst e;simp
       ·cases hb
     ·simp only[lk]at hb;split at hb
      ·rename_i e;subst e;simp
      ·split at hb
       ·rename_i e;subst e;simp
       ·split at hb
        ·rename_i e;subst e;simp
        ·cases hb
   ·dsimp only
    rw[hP1]
    generalize runF nl [] P=m at*;by_cases hm:m=[]
    ·subst hm;rw[Gr];have hL0:L=[]:=hL.symm;subst hL0;simp -implicitDefEqProofs[jJ,-natCast_add,-natCast_mul,-List.map_set,-List.reduceReplicate,St.backX,EW];refine Aa Sw ?_;simp -implicitDefEqProofs[jJ,-natCast_add,-natCast_mul,-List.map_set,-List.reduceReplicate]
    ·rw[GC nl hm]
     have q1:=fun i=>WQ i m true (by simp at hlen;omega) hok
     have hlL:L.length=m.length:=by rw[←hL];exact I0 m
     rw[hL]at q1
     simp -implicitDefEqProofs[jJ,-natCast_add,-natCast_mul,-List.map_set,-List.reduceReplicate,St.backX,EW];refine .inr (.inl (Fw (q1 80) (by simp[CW,U.all,C.id?]) (by simp[lk]) ?_))
     simp -implicitDefEqProofs[jJ,-natCast_add,-natCast_mul,-List.map_set,-List.reduceReplicate,St.backW,hlL]
 ·rw[if_pos (.inr h1)]at hL
  subst hL;simp -implicitDefEqProofs[jJ,-natCast_add,-natCast_mul,-List.map_set,-List.reduceReplicate,h0,h1]
end Go.Va
namespace Go.Va
open Go.Proofs
def Fct.Short2(f:Fct):Prop:=f.abs.length≤2∧f.den.length≤2
theorem NE(k:Int)(p q:Int×Int):(B6 k p q).Short2:=by
 unfold B6;split<;>exact⟨by simp,by simp⟩
theorem jfr(p q:Int×Int):(DX p q).Short2:=by
 unfold DX;split
 ·exact⟨by simp,by simp⟩
 ·split
  ·exact⟨by simp,by simp⟩
  ·exact NE _ _ _
theorem YC(u v w z:Int×Int):(Ci u v w z).Short2:=by
 unfold Ci;split<;>exact⟨by simp,by simp⟩
theorem Im:Fct.zero.Short2:=⟨by simp[Fct.zero],by simp[Fct.zero]⟩
theorem GY{f:Fct}(hm:f.Mild)(h:f.Short2):(normF f).Short2:=by
 unfold normF;split
 ·rename_i ok
  have r:f.Rt:=⟨ok,hm⟩;have p4:=r.parts.2.2.2;unfold normG;split
  ·split
   ·exact⟨by simp,by simp⟩
   ·exact Im
  split
  ·split
   ·exact jfr _ _
   ·exact Im
  split
  ·split
   ·exact NE _ _ _
   ·exact Im
  split
  ·rename_i h9
   rw[if_pos h9]at p4
   obtain⟨e1,e2,_,_,_⟩:=C7 p4 hm.oa hm.od
   have l1:(limbs (val f.abs)).length≤2:=by rw[←e1];exact h.1
   have l2:(limbs (val f.den)).length≤2:=by rw[←e2];exact h.2
   split
   ·unfold Cr;split
    ·exact NE _ _ _
    split
    ·exact⟨l2,l1⟩
    split
    ·exact⟨l2,l1⟩
    ·exact⟨l1,l2⟩
   ·exact Im
  split
  ·split
   ·exact YC _ _ _ _
   ·exact Im
  ·exact⟨by simp,by simp⟩
 ·exact Im
theorem K5{f:Fct}(h:f.Short2): ∀g∈rdR f,g.Short2:=by
 intro g hg;have h1:(limbs 1).length≤2:=by decide
 unfold rdR at hg;split at hg
 ·simp only[jzn,AM,or_false]at hg;rcases hg with rfl|rfl<;>exact⟨h1,h1⟩
 ·split at hg
  ·rw[jzn]at hg
   rcases hg with rfl|hg
   ·exact h
   ·split at hg
    ·cases hg
    ·simp only[jzn,AM,or_false]at hg;subst hg;exact⟨h.2,h.1⟩
  ·cases hg
theorem Q0{f g:Fct}(hf:f.Rto)(hg:g.Rto)(sf:f.Short2)(sg:g.Short2):(Ek f g).Mild:=by
 have l1:=Fe f.abs g.abs hf.mild.oa hg.mild.oa;have l2:=Fe f.den g.den hf.mild.od hg.mild.od;have a1:=GS (Nat.div_le_self (val f.abs*val g.abs) (Nat.gcd (val f.abs*val g.abs) (val f.den*val g.den)));have a2:=GS (Nat.div_le_self (val f.den*val g.den) (Nat.gcd (val f.abs*val g.abs) (val f.den*val g.den)));obtain⟨s1,s2⟩:=sf;obtain⟨s3,s4⟩:=sg;refine⟨?_,?_,Ap _,Ap _,by simp[Ek]⟩
 ·show(limbs (val f.abs*val g.abs/Nat.gcd (val f.abs*val g.abs) (val f.den*val g.den))).length≤4
  omega
 ·show(limbs (val f.den*val g.den/Nat.gcd (val f.abs*val g.abs) (val f.den*val g.den))).length≤4
  omega
theorem Rx{p q:Fct}(hp:p.Rt)(hq:q.Rt)(sp:p.Short2)(sq:q.Short2): ∀f∈Es (rdR p) (rdR q) 0,f.Mild:=by
 intro f hf;unfold Es Fd at hf;simp only[List.drop_zero,List.mem_flatMap]at hf;obtain⟨a,ha,b,hb,hf⟩:=hf;split at hf
 ·simp only[jzn,AM,or_false]at hf;subst hf;exact Q0 ((FA p hp).2.1 a ha) ((FA q hq).2.1 b hb) (K5 sp a ha) (K5 sq b hb)
 ·cases hf
theorem RE{p q:Fct}(hp:p.Rt)(hq:q.Rt):(Es (rdR p) (rdR q) 0).length≤4:=by
 have l1:=(FA p hp).2.2;have l2:=(FA q hq).2.2;unfold Es;rw[List.drop_zero];have h1: ∀a∈rdR p,(Fd a (rdR q) 0).length≤2:=by
  intro a _;unfold Fd;rw[List.drop_zero];have:=E3 (f:=fun g=>if Fx a g then [Ek a g] else []) (m:=1) (l:=rdR q) (fun g _=>by split<;>simp)
  omega
 have:=E3 (f:=fun f=>Fd f (rdR q) 0) (m:=2) (l:=rdR p) h1
 omega
theorem I1{a b:Int}{q:Fct}(hq:q.Mild):(A8 a b q).Mild:=⟨hq.la,hq.ld,hq.oa,hq.od,by show(Ck a b q.args).length≤_;rw[GO];exact hq.ln⟩
def HZ(nl:List Fct):List Fct:=match nl with|[p,q]=>Es (rdR p) (rdR q) 0|_=>[]
def Cw(nl:List Fct):List Fct:=match nl with
 |[p,q]=>if p.kind=8 then (match p.args with|[a,b]=>[A8 a b q,A8 b a q]|_=>[]) else []
 |_=>[]
theorem jeb(ps:List Fct)(hps: ∀f∈ps,f.Mild)(hs: ∀f∈ps,f.Short2)(hl:ps.length≤1000):
  CallsF Tryz.prog 29 [.c (.int .i64 4),.c (fctsD ps)] (.u (.c (.own 6 (Cl HZ 4 ps).length ((Cl HZ 4 ps).flatMap Fnd.ds)))):=by
 refine RF 4 142 HZ ps hps rfl hl fun hc hz=> ?_
 have h2:ps.length=2:=by have e:(rulT 4).count=2:=rfl;rw[e]at hc;omega
 match ps,h2 with
 |[p,q],_=>
  have r1:=Ca (hps p (by simp)) (hz p (by simp))
  have r2:=Ca (hps q (by simp)) (hz q (by simp))
  have s1:=GY (hps p (by simp)) (hs p (by simp))
  have s2:=GY (hps q (by simp)) (hs q (by simp))
  exact⟨fun x'=>jcu x' _ _ r1 r2,Rx r1 r2 s1 s2,Nat.le_trans (RE r1 r2) (by omega)⟩
theorem jdC(ps:List Fct)(hps: ∀f∈ps,f.Mild)(hl:ps.length≤1000):
  CallsF Tryz.prog 29 [.c (.int .i64 9),.c (fctsD ps)] (.u (.c (.own 6 (Cl Cw 9 ps).length ((Cl Cw 9 ps).flatMap Fnd.ds)))):=by
 refine RF 9 148 Cw ps hps rfl hl fun hc hz=> ?_
 have h2:ps.length=2:=by have e:(rulT 9).count=2:=rfl;rw[e]at hc;omega
 match ps,h2 with
 |[p,q],_=>
  have r1:=Ca (hps p (by simp)) (hz p (by simp))
  have r2:=Ca (hps q (by simp)) (hz q (by simp))
  simp only[List.map_cons,List.map_nil];generalize normF p=p' at*;generalize normF q=q' at*;by_cases h8:p'.kind=8
  ·obtain⟨a1,a2,a3,a4⟩:=r1.parts
   obtain⟨b1,b2,b3,b4⟩:=r2.parts
   have hlen:p'.args.length=2:=by rw[a2,h8];rfl
   obtain⟨a,b,hab⟩: ∃a b,p'.args=[a,b]:=by
    match p'.args,hlen with
    |[a,b],_=>exact⟨a,b,rfl⟩
   have e:Cw [p',q']=[A8 a b q',A8 b a q']:=by simp[Cw,h8,hab]
   rw[e]
   have hq0:q'.args≠[]:=fun h0=>by rw[h0]at b2;exact b1 b2.symm
   have hql:q'.args.length≤1000:=by
    rw[b2];unfold arity;repeat' split
    all_goals omega
   refine⟨fun x'=>XH x' p' q' h8 a b hab hq0 hql,?_,by simp⟩
   intro f hf;simp only[jzn,AM,or_false]at hf;rcases hf with rfl|rfl
   ·exact I1 r2.mild
   ·exact I1 r2.mild
  ·have e:Cw [p',q']=[]:=by simp[Cw,h8]
   rw[e]
   exact⟨fun x'=>jaF x' p' q' h8,by simp,by simp⟩
theorem jgu(k:Nat)(h4:k≠4)(h9:k≠9):(AJ k).derive= .nilFn∧(AJ k).count=0:=by
 unfold AJ;split<;>first|exact absurd rfl h4|exact absurd rfl h9|exact⟨rfl,rfl⟩
theorem M7(n:Int)(h4:n≠4)(h9:n≠9):(rulT n).derive= .nilFn∧(rulT n).count=((rulT n).prem.length:Int):=by
 obtain⟨a,b⟩:=jgu n.toNat (by omega) (by omega)
 refine⟨a,?_⟩
 show(AJ n.toNat).count+((AJ n.toNat).prem.length:Int)=_
 rw[b,Int.zero_add]
 rfl
def Dp(n:Int)(ps:List Fct):List Fnd:=if n=4 then Cl HZ 4 ps else if n=9 then Cl Cw 9 ps else CG n ps
theorem UX(Y:List Fct→List Fct)(n:Int)(ps:List Fct)(hps: ∀f∈ps,f.Mild)(hc:(rulT n).count=2)
  (hY: ∀p q,ps=[p,q]→(∀f∈ps,(normF f).kind≠0)→(∀f∈Y (ps.map normF),f.Mild)∧(Y (ps.map normF)).length≤1000):FndOk (Cl Y n ps)∧(Cl Y n ps).length≤100000000000:=by
 unfold Cl;split
 ·exact⟨.nil,by simp⟩
 split
 ·exact⟨.nil,by simp⟩
 ·rename_i h0 hz
  have hk: ∀f∈ps,(normF f).kind≠0:=fun g hg hk=>hz (List.any_eq_true.2 ⟨_,jzk.2 ⟨g,hg,rfl⟩,by simpa using hk⟩)
  have h2:ps.length=2:=by
   have: ¬(ps.length:Int)≠(rulT n).count:=fun h=>h0 (.inr h)
   omega
  obtain⟨p,q,hpq⟩: ∃p q,ps=[p,q]:=by
   match ps,h2 with
   |[p,q],_=>exact⟨p,q,rfl⟩
  obtain⟨y1,y2⟩:=hY p q hpq hk
  generalize Y (ps.map normF)=Q at*;have hP: ∀x∈Q.map (fun f=>((f,[]):AR)),FY x:=by
   intro x hx;obtain⟨f,hf,rfl⟩:=jzk.1 hx;exact⟨y1 f hf,by simp,by simp⟩
  have hok:=G7 (nl:=ps.map normF) _ [] .nil hP;have hlen:=Ip (ps.map normF) (Q.map (fun f=>((f,[]):AR))) []
  refine⟨⟨fun x hx=>hok.rt x ((DV _).mem_iff.1 hx),fun x hx=>hok.sh x ((DV _).mem_iff.1 hx),?_⟩,?_⟩
  ·exact((DV _).pairwise_iff (fun h=>Ne.symm h)).2 hok.nd
  ·rw[I0]
   simp at hlen;omega
theorem NF{ps:List Fct}(hps: ∀f∈ps,f.Mild)(hs: ∀f∈ps,f.Short2)(p q:Fct)(e:ps=[p,q])(hk: ∀f∈ps,(normF f).kind≠0):(∀f∈HZ (ps.map normF),f.Mild)∧(HZ (ps.map normF)).length≤1000:=by
 subst e;have r1:=Ca (hps p (by simp)) (hk p (by simp))
 have r2:=Ca (hps q (by simp)) (hk q (by simp))
 exact⟨Rx r1 r2 (GY (hps p (by simp)) (hs p (by simp))) (GY (hps q (by simp)) (hs q (by simp))),Nat.le_trans (RE r1 r2) (by omega)⟩
theorem MB{ps:List Fct}(hps: ∀f∈ps,f.Mild)(p q:Fct)(e:ps=[p,q])(hk: ∀f∈ps,(normF f).kind≠0):(∀f∈Cw (ps.map normF),f.Mild)∧(Cw (ps.map normF)).length≤1000:=by
 subst e;have r2:=Ca (hps q (by simp)) (hk q (by simp))
 simp only[List.map_cons,List.map_nil];generalize normF p=p' at*;generalize normF q=q' at*;unfold Cw;simp only;split
 ·split
  ·refine⟨fun f hf=> ?_,by simp⟩
   simp only[jzn,AM,or_false]at hf;rcases hf with rfl|rfl
   ·exact I1 r2.mild
   ·exact I1 r2.mild
  ·exact⟨by simp,by simp⟩
 ·exact⟨by simp,by simp⟩
theorem Ge(n:Int)(ps:List Fct)(hps: ∀f∈ps,f.Mild)(hs: ∀f∈ps,f.Short2):FndOk (Dp n ps)∧(Dp n ps).length≤100000000000:=by
 unfold Dp;split
 ·exact UX _ _ _ hps rfl fun p q e hk=>NF hps hs p q e hk
 split
 ·exact UX _ _ _ hps rfl fun p q e hk=>MB hps p q e hk
 ·rename_i h4 h9
  by_cases h3:ps.length≤3
  ·exact OH n ps hps h3
  ·have e:CG n ps=[]:=by
    unfold CG;rw[if_pos];refine .inr ?_;rw[(M7 n h4 h9).2];have:=(Ih n).lp;omega
   rw[e]
   exact⟨.nil,by simp⟩
theorem Ta(n:Int)(ps:List Fct)(hps: ∀f∈ps,f.Mild)(hs: ∀f∈ps,f.Short2)(hl:ps.length≤1000):
  CallsF Tryz.prog 29 [.c (.int .i64 n),.c (fctsD ps)] (.u (.c (.d (BQ (Dp n ps))))):=by
 unfold Dp;split
 ·rename_i h
  subst h;have q:=(jeb ps hps hs hl).dat;simp only[R.dat,RU.dat,RC.dat]at q;rw[IV]at q;exact q
 split
 ·rename_i h
  subst h;have q:=(jdC ps hps hl).dat;simp only[R.dat,RU.dat,RC.dat]at q;rw[IV]at q;exact q
 ·rename_i h4 h9
  exact L0 n ps hps (M7 n h4 h9).1 (M7 n h4 h9).2 (by omega)
theorem W2(n:Int)(ps:List Fct)(hps: ∀f∈ps,f.Mild)(hs: ∀f∈ps,f.Short2)(hl:ps.length≤1000):
  CallsF Tryz.prog 10 [.c (.int .i64 n),.c (fctsD ps)] (.tup [.c (.d (fctsD (factsL (Dp n ps)))),.c (.d (grdsD (BV (Bq (Dp n ps)))))]):=
 Sn n ps _ (Ge n ps hps hs).1 (Ge n ps hps hs).2 (Ta n ps hps hs hl)
theorem jad(n:Int)(ps:List Fct)(f:Fct)(hf:f.Mild)(hps: ∀f∈ps,f.Mild)(hs: ∀f∈ps,f.Short2)(hl:ps.length≤1000):
  CallsF Tryz.prog 14 [.c (.int .i64 n),.c (fctsD ps),.agg f.ds] (.tup (if (normF f).kind=0 then [.c (.d (.slice 0 [])),.c (.d (.bool false))] else [.c (.d (grdsD (Ej (Dp n ps) (normF f)).1)),.c (.d (.bool (Ej (Dp n ps) (normF f)).2))])):=
 VK n ps f hf _ (Ge n ps hps hs).1 (Ge n ps hps hs).2 (Ta n ps hps hs hl)
end Go.Va
