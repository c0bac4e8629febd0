/- a part of the proof -/
import Derived.Test.YtplacedebenpaaaGreatDoorEbl
import Derived.Test.YtplacedebenpaaaGreatDoorEbm
import Derived.Test.YtplacedebenpaaaGreatDoorEbj
import Derived.Test.YtplacedebenpaaaGreatDoorEaw
import Derived.Test.YtplacedebenpaaaGreatDoorEay
set_option linter.all false
set_option maxHeartbeats 4000000
set_option maxRecDepth 100000
namespace Go.Va
open _root_.Bool renaming not_eq_true' → aD, false_eq_true → aI
open _root_.List renaming length_map → aG
open _root_.Nat renaming le_trans → aH
open Go.Proofs
theorem jyp{sg:Bool}{c:UInt8}(h:FD sg c):97<=(UA sg c).toNat/\(UA sg c).toNat<123:=by
 unfold UA FD at*;cases sg with
 |true=>simpa using h
 |false=>
  simp only[aI,if_false]at h ⊢;rw[UInt8.toNat_add];have:(32:UInt8).toNat=32:=rfl;omega
theorem jll{sg:Bool}{ls:List UInt8}(h: ∀c∈ls,FD sg c): ∀c∈ls.map (UA sg),97<=c.toNat/\c.toNat<123:=λc a=>by
 obtain⟨d,b,rfl⟩:=jzk.1 a;exact jyp (h d b)
theorem jBy{sg:Bool}{p:Pat}(a:US sg p=true):(1<=p.kind/\p.kind<=8)/\(sg=true->p.kind=2\/p.kind=3\/p.kind=4\/p.kind=7):=by
 unfold US at a;rw[AR]at a;have a:=a.2;split at a
 ·rename_i h;simp only[AR,aD]at a;exact⟨O,λe=>by rw[e]at a;cases a.1⟩
 split at a
 ·rename_i h;simp only[AR,aD]at a;exact⟨O,λe=>by rw[e]at a;cases a.1⟩
 split at a
 ·rename_i h;simp only[AR,aD]at a;exact⟨O,λe=>by rw[e]at a;cases a.1⟩
 split at a
 ·rename_i h;simp only[AR,aD]at a;exact⟨O,λe=>by rw[e]at a;cases a.1⟩
 split at a
 ·rename_i h;exact⟨O,λ_=>O⟩
 ·simp only[AR,Bool.or_eq_true,decide_eq_true_eq]at a;exact⟨O,λ_=>O⟩
theorem jyH{sg:Bool}{v:Int×Int}(h:KD sg v):Qq sg v<2000:=by
 unfold KD at h;unfold Qq;cases sg<;>simp only[aI,if_false,if_true]at h ⊢ <;>omega
theorem jv5{sg:Bool}{r:Rul}(h:r.Good)(l:WH sg r=true)(e:(r.guards.all λP=>decide (-1000<=P.kind)&&decide (P.kind<=1000))=true):(Rv sg r).Fit:=by
 unfold WH at l;simp only[AR]at l;obtain⟨⟨⟨⟨m,z⟩,E⟩,N⟩,Q⟩:=l;rw[jzy]at m z E e;have k: ∀P:Pat,jb8 sg r P=true-> ∀c∈P.letters,FD sg c:=λP t c H=>by
  unfold jb8 at t;have:=jzy.1 t c H;simp only[AR,decide_eq_true_eq]at this;exact this.1
 refine⟨λq g=> ?_,λq g f w v I=> ?_,λq g=> ?_,λq g=> ?_,?_⟩
 ·obtain⟨p,b,rfl⟩:=jzk.1 g;have j:=m p b;have e:=jBy j;refine⟨jll (jf8 j),?_,e.1,e.2⟩;show(p.letters.map _).length<=1000;rw[aG];exact aH (h.fit p b).2 O
 ·obtain⟨p,b,rfl⟩:=jzk.1 g;have j:=m p b;obtain⟨a,G,rfl⟩:=(jkr j w v).1 I;obtain⟨F,o⟩:=jsR j w a G;constructor
  ·show(vals sg a).length<=(p.letters.map _).length;rw[<-F];simp[vals]
  ·intro x J;obtain⟨s,y,rfl⟩:=jzk.1 J;exact⟨jsl (o s y),jyH (o s y)⟩
 ·obtain⟨p,b,rfl⟩:=jzk.1 g;have i:=h.hc p b;refine⟨jll (k p (E p b)),?_,i.2.1,i.2.2⟩;show(p.letters.map _).length<=1000;rw[aG];exact i.1.2.1
 ·obtain⟨p,b,rfl⟩:=jzk.1 g;have i:=h.hg p b;have e:=e p b;simp only[AR,decide_eq_true_eq]at e;refine⟨jll (k p (z p b)),?_,e.1,e.2⟩;show(p.letters.map _).length<=1000;rw[aG];exact aH i.2 O
 ·have K:=h.lp;have L:=h.lc;have M:=h.lg;unfold Rv;simp only[aG];omega
theorem jtV: ∀n:Fin 29,((DW n.val).guards.all λP=>decide (-1000<=P.kind)&&decide (P.kind<=1000))=true:=O6
theorem jmk{n:Nat}(a:n≠4)(b:n≠9):(MW n).Fit:=by
 obtain⟨e,f⟩:=jhj n a b;rw[f];refine jv5 (jbS n) e ?_;by_cases h:n<29
 ·exact jtV ⟨n,h⟩
 ·rw[Nh n O];rfl
theorem jpY{b:RRul}(a:b.Fit){nl:List Fct}(e: ∀f∈nl,f.Rt): ∀(k i:Nat) (n:Nmz),(Li b nl k i n).length<=200^k*1000
 |0,i,n=>by
  rw[Li];unfold Tm;have:=a.lens;split
  ·simp;omega
  ·simp
 |k+1,i,n=>by
  rw[Li];split
  ·rename_i q f g h;have j:=jqA q f (e f (BY h)) (a.frm q (BY g)).2.2.1;have o:=WE (f:=λv=>if (H3 q.letters v n).2 then Li b nl k (i+1) (H3 q.letters v n).1 else []) (m:=200^k*1000) (l:=R6 q f) λv _=>by
    split
    ·exact jpY a e k (i+1) _
    ·simp
   refine aH o (aH (BC _ j) ?_);rw[Nat.pow_succ];generalize 200^k=E;omega
  ·simp
end Go.Va
namespace Go.Va
open _root_.List renaming replicate → aD, map_set → aG, mem_iff_getElem → aH
open Int renaming natCast_add → qA, natCast_mul → qB, natCast_emod → qC, natCast_ediv → qD, natCast_pow → qE
open List renaming reduceReplicate → qF
open Go.Proofs Go.Proofs.Tryz
def YB(i:Nat):List C:=aD i (.d (.int .i16 (-1)))++aD (26 - i) (.d (.int .i16 0))
theorem jup{i:Nat}(h:i<=26):(YB i).length=26:=by grind[YB]
theorem jvx:YB 0=aD 26 (.d (.int .i16 0)):=rfl
theorem jvP:YB 26=Nmz.zero.cs:=O5
theorem jBg{α:Type}(A B:List α)(x z:α){i:Nat}(h:A.length=i):splice i [x] (A++z::B)=A++x::B:=by
 unfold splice;rw[List.take_left' h,show A++z::B=(A++[z])++B by simp,List.drop_left' (by simp[h])];simp
theorem jBm{i:Nat}(h:i<26):splice i [.d (.int .i16 (-1))] (YB i)=YB (i+1):=by
 unfold YB;obtain⟨m,hm⟩: ∃m,26 - i=m+1:=⟨25 - i,O⟩
 rw[hm,show 26 - (i+1)=m by omega];rw[show aD (m+1) (C.d (.int .i16 0))=C.d (.int .i16 0)::aD m (C.d (.int .i16 0)) from rfl,jBg _ _ _ _ O1,List.replicate_succ'];simp
def Xy(a:List Fct)(i:Nat):List Fct:=(a.take i).map normF
theorem jtI{a:List Fct}{i:Nat}(h:i<=a.length):(Xy a i).length=i:=by grind[Xy]
theorem jBt{a:List Fct}{i:Nat}(h:i<a.length):Xy a (i+1)=Xy a i++[normF a[i]]:=by
 unfold Xy;rw[Cr h,List.map_append];rfl
theorem juM(a:List Fct):Xy a a.length=a.map normF:=by unfold Xy;simp
theorem jhv{b:RRul}(f:b.Fit){nl:List Fct}: ∀(k i:Nat) (n:Nmz),∀x∈Li b nl k i n,GK x.2
 |0,i,n,x,a=>by
  rw[Li]at a;unfold Tm at a;split at a
  ·obtain⟨q,e,rfl⟩:=jzk.1 a;exact(jlr n b.guards [] (λq e=>(f.gua q e).2) O1).1
  ·cases a
 |k+1,i,n,x,a=>by
  rw[Li]at a;split at a
  ·obtain⟨v,g,a⟩:=List.mem_flatMap.1 a;split at a
   ·exact jhv f k (i+1) _ x a
   ·cases a
  ·cases a
theorem jyZ(n:Int)(l:List Fct)(v: ∀f∈l,f.Mild)(hs: ∀f∈l,f.Short2)(hl:l.length<=1000):
  CallsF prog 60 [.c (.int .i64 n),.c (C1 l)] (.u (.c (.own 6 (allR n l).length ((allR n l).flatMap Fnd.ds)))):=by
 have T:=jpl n;generalize t:allR n l=L;unfold allR at t;have P:n<1\/28<n\/(l.length:Int)≠(MW n.toNat).frm.length->CallsF prog 60 [.c (.int .i64 n),.c (C1 l)] (.u (.c (.own 6 L.length (L.flatMap Fnd.ds)))):=by
  intro h;rw[if_pos h]at t;subst t;clear v hs;generalize (MW n.toNat).frm.length=F at*;refine cO func60 rfl ?_;by_cases Z:n<1
  ·simp_all
  by_cases I:28<n
  ·simp_all
  ·have h3: ¬(n<0\/28<n):=O;rw[if_neg h3]at T;have h4: ¬l.length=F:=O;refine rC2 Z I ?_;refine Ac T ?_;simp_all
 by_cases Y:n<1\/28<n\/(l.length:Int)≠(MW n.toNat).frm.length
 ·exact P Y
 clear P;rw[if_neg Y]at t;have Z: ¬n<1:=O;have I: ¬28<n:=O;have h3: ¬(n<0\/28<n):=O;have h4:(MW n.toNat).frm.length=l.length:=O;rw[if_neg h3,h4]at T;have H:=λi (h:i<l.length)=>XP l[i] (v _ (AZ h));have S:=λi (h:i<l.length)=>jf7 l[i] (v _ (AZ h));have nL:= @jtI l;have nS:= @jBt l;have nE:=juM l;have n0:Xy l 0=[]:=rfl;simp only[Fct.ds,Fct.res]at H S;refine cO func60 rfl ?_;refine rC2 Z I ?_;refine aC T ?_;refine CE [(5,41)] (λi:Nat=>⟨[(6,vI .i64 i),(5,vC (.sl 5 0 i)),(0,vI .i64 n),(1,vC (.d (C1 l)))],[(5,.row 5 ((Xy l i).flatMap Fct.ds) true)]⟩)
  (λi=>i<=l.length/\ ∀j (Q:j<l.length),j<i->Eb l[j]=true) (λi=>l.length - i) 0 (by simp[n0]) O1 ?_
 rintro i ⟨hi,hok⟩;by_cases h:i<l.length
 ·have H:=H i h;have S:=S i h;have W:=VX h;have es:=nS h;have el:=nL hi;cases ho:Eb l[i]with
  |false=>
   rw[ho]at H;rw[if_pos O3]at t;subst t;refine rC2 h W ?_;refine Ac H ?_;simp
  |true=>
   rw[ho]at H;refine rC2 h W ?_;refine Ac H ?_;refine rC2 h W ?_;refine Ac S ?_;refine rC1 el ?_;exact⟨O,O,i+1,(by simp_all),O3,O⟩
 ·have z:i=l.length:=O;subst z;rw[if_neg (λhc=>by
   obtain⟨f,J,Y⟩:=List.any_eq_true.1 hc;obtain⟨j,Q,rfl⟩:=aH.1 J;grind)]at t
  have o: ∀f∈l.map normF,f.Rt:=λf J=>by
   obtain⟨g,hg,rfl⟩:=jzk.1 J;obtain⟨j,Q,rfl⟩:=aH.1 hg;have:normF l[j]=normG l[j]:=by simp_all[normF,if_pos]
   rw[this];exact Ys ⟨hok j Q Q,v _ hg⟩
  have M: ∀f∈l.map normF,f.Short2:=λf J=>by
   obtain⟨g,hg,rfl⟩:=jzk.1 J;grind[jav]
  rw[nE];have G:(l.map normF).length=l.length:=List.length_map ..;generalize l.map normF=m at*;have hnl:m.length<=1000:=O;have y:(MW n.toNat).frm.length=m.length:=O;by_cases c4:n=4
  ·subst c4;have kL:CallsF prog 118 [.c (C1 m)] (.u (.c (.own 6 L.length (L.flatMap Fnd.ds)))):=by
    have I:m.length=2:=by rw[<-y];rfl
    obtain⟨p,q,rfl⟩: ∃p q,m=[p,q]:=by
     grind
    have k:=jBQ p q (o p O1) (o q O1) (M p O1) (M q O1);rw[show Dj [p,q] [] (WK 4 [p,q])=Dj [p,q] [] ((XD p q).map λf=>(f,[])) from rfl]at t;rw[t]at k;exact k
   refine rC ?_;rw[<-G];refine rC ?_;refine Ac kL ?_;simp
  by_cases c9:n=9
  ·subst c9;have kL:CallsF prog 119 [.c (C1 m)] (.u (.c (.own 6 L.length (L.flatMap Fnd.ds)))):=by
    have I:m.length=2:=by rw[<-y];rfl
    obtain⟨p,q,rfl⟩: ∃p q,m=[p,q]:=by
     match m,I with
     |[p,q],_=>exact⟨p,q,rfl⟩
    rw[show Dj [p,q] [] (WK 9 [p,q])=Dj [p,q] [] ((Pw [p,q]).map λf=>(f,[])) from rfl]at t;have hp:=o p O1;have hq:=o q O1;by_cases k8:p.kind=8
    ·obtain⟨a,b,ha⟩: ∃a b,p.args=[a,b]:=by
      have:p.args.length=2:=by rw[hp.parts.2.1,k8];rfl
      match p.args,this with
      |[a,b],_=>simp
     have k:=jBu p q hp hq k8 a b ha;simp_all[Pw,HX,if_pos]
    ·have k:=jxD p q k8;have e:Pw [p,q]=[]:=by
      simp_all[Pw,if_neg]
     rw[e]at t;rw[<-t];exact k
   refine rC ?_;rw[<-G];refine rC ?_;refine Ac kL ?_;simp
  ·have w:=jmk (n:=n.toNat) O O;have kG:=ZP n;have hn3:m.length<=3:=by
    obtain⟨t1,t2⟩:=jhj n.toNat O O;have e1:(MW n.toNat).frm.length=(DW n.toNat).prem.length:=by grind[Rv]
    have:=(jbS n.toNat).lp;omega
   have eQ:WK n m=Li (MW n.toNat) m m.length 0 Nmz.zero:=by simp_all[WK,if_neg]
   have hQ: ∀x∈Li (MW n.toNat) m m.length 0 Nmz.zero,(x.1.Mild/\(normF x.1).Rt)/\GK x.2:=by
    obtain⟨t1,t2⟩:=jhj n.toNat O O;have K:m.length=(DW n.toNat).prem.length:=by
     grind[MW,DW,Rv]
    obtain⟨s1,s2⟩:=jrh (sg:=Yr n.toNat) (r:=DW n.toNat) (jbS _) t1 o K;have hP:=jde (DW n.toNat) (jbS _) m o;intro x hx;rw[t2]at hx;have N:=(s1 x).2 hx;have ho:=s2 x N;have hm:=(hP x N).1;grind[NW,YT,jhv]
   have E:(Li (MW n.toNat) m m.length 0 Nmz.zero).length<=100000000000:=by
    refine Nat.le_trans (jpY w o _ _ _) ?_;have:200^m.length<=200^3:=Nat.pow_le_pow_right O hn3;omega
   have kM:=jpX (MW n.toNat) w m o hnl y.symm m.length 0 [] Nmz.zero O Nmz.zero_ok O1 (by simpa using E) hQ;rw[<-eQ,t]at kM;have X:= @jBm;generalize MW n.toNat=rr at*;simp only[RRul.res,RRul.ds]at kG kM;simp -implicitDefEqProofs[jJ,-qA,-qB,-qC,-qD,-qE,-aG,-qF,c4,c9];rw[<-G];refine AV (λi:Nat=>⟨[(8,vI .i64 i),(7,vC (.ptr 7 0)),(5,vC (.sl 5 0 m.length)),(0,vI .i64 n)],[(7,.box (YB i)),(5,.row 5 (m.flatMap Fct.ds) true)]⟩)
    (λi=>i<=26) (λi=>26 - i) 0 (by simp[AW,lk,St.le,vI,vC,jvx]) O ?_
   rintro i hi;by_cases h:i<26
   ·have X:=X h;have fl:=jup hi;have h':i<=25:=O;simp -implicitDefEqProofs[jJ,-qA,-qB,-qC,-qD,-qE,-aG,-qF,h,h',fl,X];grind
   ·have z:i=26:=O;subst z;rw[jvP];simp -implicitDefEqProofs[jJ,-qA,-qB,-qC,-qD,-qE,-aG,-qF];refine AA (Ah [0,1,0,0,15,31]) [.any [5] [] (Aq [[0],[57],[5],[7]]),.one,.one] O5 ?_;simp -implicitDefEqProofs[jJ,-qA,-qB,-qC,-qD,-qE,-aG,-qF,-DZ,Oj,ND];refine Ae kG ?_;simp -implicitDefEqProofs[jJ,-qA,-qB,-qC,-qD,-qE,-aG,-qF];refine .inr (.inr (.inr (.inr (.inl (.inr (.inr (.inl ⟨rfl,6,_,61,_,_,_,rfl,?_,rfl,kM,?_⟩)))))))
    ·simp[U.toA,toD]
    simp
theorem jw8(n:Int)(i:List Fct): ∀x∈allR n i,GK x.grds:=by
 have e: ∀(b:List Fct),∀x∈Dj b [] (WK n b),GK x.grds:=λb x g=>by
  refine(jdm (P:=λ_=>True) (G:=GK) (WK n b) O1 (λy a=>⟨trivial,?_⟩) x g).2;unfold WK at a;split at a
  ·split at a
   ·obtain⟨f,_,rfl⟩:=jzk.1 a;simp[GK]
   ·cases a
  ·split at a
   ·obtain⟨f,_,rfl⟩:=jzk.1 a;simp[GK]
   ·rename_i j k;by_cases h:0<=n
    ·exact jhv (jmk (n:=n.toNat) O O) _ _ _ y a
    ·exact jhv (jmk (n:=n.toNat) O O) _ _ _ y a
 unfold allR;split
 ·simp
 ·split
  ·simp
  ·exact e _
theorem jtQ(n:Int)(j:List Fct)(f:Fct)(p:f.Mild)(L:List Fnd)(q: ∀x∈L,x.fact.Mild)(v:L.length<=100000000000)
  (o:CallsF prog 60 [.c (.int .i64 n),.c (C1 j)] (.u (.c (.own 6 L.length (L.flatMap Fnd.ds))))):
  CallsF prog 27 [.c (.int .i64 n),.c (C1 j),.agg f.ds] (.tup [.c (.d (Dd (P8 L f).1)),.c (.d (.bool (P8 L f).2))]):=by
 have r:CallsF prog 60 [.c (.int .i64 n),.c (C1 j)] (.u (.c (.d (Tk L)))):=by
  have k:=o.dat;simp only[R.dat,RU.dat,RC.dat]at k;rw[jfF]at k;exact k
 have b:=λi (h:i<L.length)=>jtj L[i].fact f (q _ (AZ h)) p;generalize e:P8 L f=R;have e:P8 (L.drop 0) f=R:=e;simp only[Fct.ds]at b ⊢;refine oA func27 ?_;refine aA r ?_;refine AV (λi:Nat=>⟨[(9,vI .i64 i),(8,vC (.d (Tk L))),(5,vC (.ptr 5 0))],[(5,.box (f.ds.map .d))]⟩)
  (λi=>i<=L.length/\P8 (L.drop i) f=R) (λi=>L.length - i) 0 (by simp[AW,lk,St.le,vI,vC,Fct.ds]) ⟨O,e⟩ ?_
 rintro i ⟨t,a⟩;by_cases h:i<L.length
 ·have b:=b i h;have l:=jlX h;rw[BQ h]at a;unfold P8 at a;rw[List.find?_cons]at a;simp -implicitDefEqProofs[jJ,-qA,-qB,h,Fct.ds];refine AA (Ah [0,0,3,7,15,0,63]) [.any [] [] (Aq [[8],[9],[19,20],[21],[22],[5]]),.one] O5 ?_;refine rA2 h l ?_;refine Ac b ?_;cases m:LZ L[i].fact f with
  |true=>
   rw[m]at a;refine rA2 h l ?_;rw[<-a];exact⟨rfl,rfl⟩
  |false=>
   rw[m]at a;refine rA ?_;exact⟨O,⟨O,a⟩,O⟩
 ·have g:i=L.length:=O;subst g;rw[List.drop_length]at a;subst a;refine rA ?_;exact⟨rfl,rfl⟩
end Go.Va
namespace Go.Va
open Go.Proofs
def jcA(g:Grd):Bool:=decide (g.args.length<=1000000/\ -1000<=g.kind/\g.kind<=1000)
def Te(r:Int)(a:List Fct)(f:Fct):List Grd:=if (P8 (allR r a) f).1.length<=10/\(P8 (allR r a) f).1.all jcA=true then (P8 (allR r a) f).1 else []
theorem jm8(r:Int)(a:List Fct)(f:Fct):(Te r a f).length<=10:=by
 unfold Te;split
 ·rename_i h;exact h.1
 ·simp
theorem jsc(r:Int)(b:List Fct)(f:Fct): ∀g∈Te r b f,g.Short/\ -1000<=g.kind/\g.kind<=1000:=λg a=>by
 unfold Te at a;split at a
 ·rename_i h;have q:=jzy.1 h.2 g a;unfold jcA at q;have e:=of_decide_eq_true q;exact e
 ·cases a
theorem jtf(r:Int)(a:List Fct)(f:Fct): ∀g∈Te r a f,g.Short:=λg b=>(jsc r a f g b).1
theorem jrj(n:Int)(a:List Fct)(f:Fct)(i: ∀f∈a,f.Mild)(l: ∀f∈a,f.Short2)(v:a.length<=1000)(r:f.Mild):
  ∃b,CallsF Tryz.prog 20 [.c (.int .i64 n),.c (C1 a),.agg f.ds] (.tup [.c (.d (Dd (Te n a f))),.c (.d (.bool b))])/\
   CallsF Tryz.prog 27 [.c (.int .i64 n),.c (C1 a),.agg f.ds] (.tup [.c (.d (Dd (Te n a f))),.c (.d (.bool b))]):=by
 have p:=jhP n a i l;have o:=jxw n a f r i l v;have e:=juH (n:=n) i l r;rw[jm5 n a i l]at p o e;have w:=jyZ n a i l v;have t: ∀g∈(P8 (allR n a) f).1,jcA g=true:=λg j=>by
  unfold P8 at j;split at j
  ·rename_i x m;have q:=jw8 n a x (List.mem_of_find?_eq_some m) g j;unfold jcA;exact decide_eq_true ⟨q.1,q.2.1,q.2.2⟩
  ·cases j
 have k:(P8 (allR n a) f).1.length<=10:=by
  unfold P8;split
  ·rename_i x m;exact(p.1.sh x (List.mem_of_find?_eq_some m)).1
  ·simp
 have j:Te n a f=(P8 (allR n a) f).1:=by
  unfold Te;rw[if_pos ⟨k,jzy.2 t⟩]
 rw[j];generalize allR n a=L at*;refine⟨(P8 L f).2,?_,jtQ n a f r L (λx m=>(p.1.rt x m).mild) p.2 w⟩;rw[<-e];by_cases h:(normF f).kind=0
 ·rw[if_pos h]at o ⊢;exact o
 ·rw[if_neg h]at o ⊢;exact o
theorem jmL{α:Type}(p:α->Bool): ∀(l:List α) (i:Nat),Lp p l i= -1\/ ∃j<l.length,Lp p l i=((i+j:Nat):Int)
 |[],_=> .inl rfl
 |x::r,i=>by
  rw[Lp];by_cases h:p x=true
  ·rw[if_pos h];exact .inr ⟨0,O1,rfl⟩
  ·rw[if_neg h];rcases jmL p r (i+1)with h|⟨j,a,b⟩
   ·exact .inl h
   ·exact .inr ⟨j+1,by simpa using a,by rw[b];congr 1;omega⟩
def jc8(e:Int):R:= .tup [.agg [.d (.slice 0 []),.d (.slice 0 [])],.c (.d (.int .i64 e))]
def OR(ds:List Der)(i:Nat):List Bool:=(List.replicate ds.length false).set i true
def jbt(ds:List Der)(f:Fct):R:=
 if Lp (λx=>LZ x.fact f) ds 0= -1 then jc8 13
 else if R2 ds ((Lp (λx=>LZ x.fact f) ds 0).toNat+1) (OR ds (Lp (λx=>LZ x.fact f) ds 0).toNat)=true then jc8 15
 else .tup [.agg [.d (Dh (H0 ds (Kr ds ((Lp (λx=>LZ x.fact f) ds 0).toNat+1) (OR ds (Lp (λx=>LZ x.fact f) ds 0).toNat)) ((Lp (λx=>LZ x.fact f) ds 0).toNat+1))),
   .d (Dd (Nw (exG Te ds (Kr ds ((Lp (λx=>LZ x.fact f) ds 0).toNat+1) (OR ds (Lp (λx=>LZ x.fact f) ds 0).toNat)) ((Lp (λx=>LZ x.fact f) ds 0).toNat+1))))],.c (.d (.int .i64 0))]
theorem jBD(ds:List Der)(j:List Grd)(f:Fct)(r:ds.length<=1000)(e: ∀x∈ds,x.frm.length<=1000)(m: ∀x∈ds,x.fact.Mild/\x.fact.Short2)(G:f.Mild):
  CallsF Tryz.prog 7 [.agg [Dh ds,Dd j],.agg f.ds] (jbt ds f):=by
 have o: ∀x∈ds,CallsF Tryz.prog 18 [.agg x.fact.ds,.agg f.ds] (.u (.c (.d (.bool ((λx:Der=>LZ x.fact f) x))))):=λx v=>jy3 x.fact f (m x v).1 G;unfold jbt;rcases jmL (λx:Der=>LZ x.fact f) ds 0 with h|⟨i,z,a⟩
 ·rw[if_pos h];exact jyP ds j f _ r o h
 ·rw[Nat.zero_add]at a;rw[if_neg (by rw[a];omega),a,Int.toNat_natCast];unfold OR;cases E:R2 ds (i+1) ((List.replicate ds.length false).set i true)with
  |true=>
   rw[if_pos rfl];exact jt6 ds j f _ r e o i z a E
  |false=>
   rw[if_neg O1];exact jxK ds j f _ Te r e
    (λx v H q F=>by
     obtain⟨b,k,-⟩:=jrj x.rule H x.fact (λg p=>by obtain⟨y,w,rfl⟩:=F g p;exact(m y w).1) (λg p=>by obtain⟨y,w,rfl⟩:=F g p;exact(m y w).2) q (m x v).1;exact⟨b,k⟩)
    jm8 XL EM jfh Grd.Short jtf (λl x h=>sortG_mem.1 h) (λl q t i=>jAA i l true O t) (λl q t=>jwL l O t) o i z a E
end Go.Va
