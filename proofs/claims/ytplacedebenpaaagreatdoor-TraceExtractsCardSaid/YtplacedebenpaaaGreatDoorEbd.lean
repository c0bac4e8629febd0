/- a part of the proof -/
import Derived.Test.YtplacedebenpaaaGreatDoorEbc
import Derived.Test.YtplacedebenpaaaGreatDoorEat
import Derived.Test.YtplacedebenpaaaGreatDoorEax
import Derived.Test.YtplacedebenpaaaGreatDoorEau
import Derived.Test.YtplacedebenpaaaGreatDoorEaz
set_option linter.all false
set_option maxHeartbeats 4000000
set_option maxRecDepth 100000
namespace Go.Va
open _root_.List renaming map_set → aD, replicate_succ → aG, length_map → aH, replicate → aI
open Int renaming natCast_add → qA, natCast_mul → qB, natCast_emod → qC, natCast_ediv → qD, natCast_pow → qE
open List renaming reduceReplicate → qF
open Go.Proofs Go.Proofs.Tryz
variable{a:List Fct}{i:Nat}
@[simp high]theorem fct_at(l:List Fct)(i:Nat)(h:i<l.length):((l.flatMap Fct.ds).drop (i*5)).take 5=l[i].ds:=Ic Fct.ds_len l i h
@[simp]theorem jyb(l:List Fct):(l.flatMap Fct.ds).take (l.length*5)=l.flatMap Fct.ds:=Ba (by rw[jdG];omega)
@[simp]theorem jCj(l:List Fct):D.slice l.length (l.flatMap Fct.ds)=C1 l:=rfl
def SV(n:Int)(a:List Fct):List Fnd:=
 if (rulT n).name=[]\/(a.length:Int)≠(rulT n).count then [] else
 if (a.map normF).any (λf=>decide (f.kind=0)) then [] else jis (rulT n) (a.map normF)
def Qf(a:List Fct)(i:Nat):List Fct:=(a.take i).map normF++aI (a.length - i) Fct.zero
theorem jdP(h:i<=a.length):(Qf a i).length=a.length:=by
 simp[Qf];omega
theorem jmz(h:i<a.length):(Qf a i).set i (normF a[i])=Qf a (i+1):=by
 unfold Qf;rw[List.set_append_right _ _ (by simp;omega),Cr h,List.map_append,List.append_assoc];congr 1;rw[show a.length - i=(a.length - (i+1))+1 by omega,aG];simp[Bs (Nat.le_of_lt h)]
theorem jrA(a:List Fct):Qf a a.length=a.map normF:=by simp[Qf]
theorem jo1(n:Nat):rep n [D.int .i64 0,D.slice 0 [],D.bool false,D.slice 0 [],D.slice 0 []]=(aI n Fct.zero).flatMap Fct.ds:=by
 induction n with
 |zero=>rfl
 |succ n a=>rw[rep,a,aG,List.flatMap_cons];rfl
theorem jrF(h:i<a.length):((Qf a (i+1)).flatMap Fct.ds)[i*5]? =some (.int .i64 (normF a[i]).kind):=by
 have g:(Qf a (i+1)).length=a.length:=jdP h;have b:(((Qf a (i+1)).flatMap Fct.ds).drop (i*5)).take 5=(Qf a (i+1))[i].ds:=(by simp_all)
 have e:(Qf a (i+1))[i]' O=normF a[i]:=by
  simp[<-jmz h]
 rw[e]at b;have f:=congrArg (λl=>l[0]?) b;simpa [List.getElem?_take,List.getElem?_drop]using f
theorem jsg(nl:List Fct)(o: ∀x∈nl,x.Rt)(j:nl.length<=1000)(P:List Fo)(l: ∀x∈P,Xn x)(m:P.length<=90000000000)(y:List A)(b:List (List A))(p:(y::b)<:+P.map TG):
  Ld prog 95 y [.ptr 6 0,.ptr 9 0] (QZ nl (runF nl [] (P.take (P.length - (y::b).length)))) (QZ nl (runF nl [] (P.take (P.length - b.length)))):=by
 obtain⟨a,g⟩:=p;have f:=congrArg List.length g;simp only[List.length_append,List.length_cons,aH]at f;have i:a.length<P.length:=O;have q:TG P[a.length]=y:=by
  have h:(P.map TG)[a.length]? =some (TG P[a.length]):=by simp[i]
  grind
 rw[show P.length - (y::b).length=a.length by grind,show P.length - b.length=a.length+1 by omega,Cr i];have e:runF nl [] (P.take a.length++[P[a.length]])=jah nl (runF nl [] (P.take a.length)) P[a.length].1 P[a.length].2:=by
  unfold runF;grind
 rw[e,<-q];have k:=l _ (AZ i);have h:=jaI nl (P.take a.length) [];rw[A8]at h;exact jwg nl _ _ _ k.1 o j (ZM _ [] .nil O3) (by simp at h;omega) k.2
theorem jyA(n:Int)(l:List Fct)(hps: ∀f∈l,f.Mild)(hd:(rulT n).derive= .nilFn)(N:(rulT n).count=((rulT n).prem.length:Int))(hl:l.length<=1099511627776):
  CallsF prog 53 [.c (.int .i64 n),.c (C1 l)] (.u (.c (.own 6 (SV n l).length ((SV n l).flatMap Fnd.ds)))):=by
 have J:=Yz n;have a:=jcL n;generalize w:SV n l=L;unfold SV at w;generalize rulT n=r at*;simp only[Rul.res,Rul.ds,MB]at J;rw[hd]at J;refine cO func53 rfl ?_;simp -implicitDefEqProofs[jJ,-qA,-qB,-qC,-qD,-qE,-aD,-qF];refine Ac J ?_;simp -implicitDefEqProofs[jJ,-qA,-qB,-qC,-qD,-qE,-aD,-qF];by_cases h0:r.name=[]
 ·grind
 by_cases h1:(l.length:Int)=r.count
 ·rw[if_neg (by simp[h0,h1])]at w;obtain⟨v,o,q,t,cnt,dd⟩:=r;simp only at*;subst h1;subst hd;simp -implicitDefEqProofs[jJ,-qA,-qB,-qC,-qD,-qE,-aD,-qF,h0];refine⟨O,?_⟩;rw[jo1];refine AV (λi:Nat=>⟨[(28,vI .i64 i),(27,vI .i64 l.length),(26,vC (.d (C1 l))),(6,vC (.ptr 6 0)),(5,vC (.ptr 5 0))],
   [(6,.box [.sl 25 0 l.length]),(25,.row 5 ((Qf l i).flatMap Fct.ds) true),(5,.box [.d (.str (bs v)),.d (.slice o.length (o.flatMap Pat.ds)),.d (.slice q.length (q.flatMap Pat.ds)),.d (.slice t.length (t.flatMap Pat.ds)),.d (.int .i64 l.length),.d .nilFn])]⟩)
   (λi=>i<=l.length/\ ∀f∈l.take i,(normF f).kind≠0) (λi=>l.length - i) 0 (by simp[AW,lk,St.le,vI,vC,Qf]) O1 ?_
  rintro i ⟨hi,hz⟩;by_cases h:i<l.length
  ·have k2:=jb0 l[i] O3;have e2:=VX h;have g2:=jrF h;have Z:=jhT Fct.ds_len (Qf l i) i (normF l[i]) (by grind[jdP]);rw[jmz h]at Z;simp only[Fct.ds]at k2 Z;simp -implicitDefEqProofs[jJ,-qA,-qB,-qC,-qD,-qE,-aD,-qF,h,e2];refine AA (Ah [0,0,0,4,15,31]) [.any [] [] (Aq [[6],[7],[8],[35]]),.one,.one] O5 ?_;simp -implicitDefEqProofs[jJ,-qA,-qB,-qC,-qD,-qE,-aD,-qF];refine Ae k2 ?_;simp -implicitDefEqProofs[jJ,-qA,-qB,-qC,-qD,-qE,-aD,-qF,Fct.res,h,Z,g2];refine⟨by grind[jdP],λT=> ?_,λT=> ?_⟩
   ·grind
   ·refine⟨O,i+1,⟨rfl,rfl⟩,⟨O,λf Q=> ?_⟩,O⟩;rw[Cr h,List.mem_append,List.mem_singleton]at Q;grind
  ·have S:i=l.length:=O;subst S;rw[jrA];rw[BM]at hz;have F: ∀f∈l.map normF,f.Rt:=λf Q=>by
    obtain⟨g,hg,rfl⟩:=jzk.1 Q;grind[NW]
   rw[if_neg (by
    grind)]at w
   have W:l.length=(l.map normF).length:=O1;rw[W]at w a N ⊢;generalize l.map normF=nl at*;have X:nl.length<=o.length:=O;have hP:=jde _ a nl F;have hPl:=jo0 _ a nl F (by have:=a.lp;grind);have K:=λx=>juV x nl ⟨v,o,q,t,(nl.length:Int),.nilFn⟩ (PC ⟨v,o,q,t,(nl.length:Int),.nilFn⟩ nl) X (by have:=a.lp;grind) (by have:=a.lc;omega) (by have:=a.lg;omega) (λp hp=>(a.hg p hp).1) a.hc (λj hj b E=>⟨λx'=>by
     have e:PC ⟨v,o,q,t,(nl.length:Int),.nilFn⟩ nl j b=SB (o[j]' O) nl[j] b:=by
      grind[PC,List.getElem?_eq_getElem]
     rw[e];exact juz _ _ (a.fit _ O1).1 O3 b x',(by grind[jr2])⟩) Bnd.zero rfl
   rw[show found1 (U7 ⟨v,o,q,t,(nl.length:Int),.nilFn⟩) (PC ⟨v,o,q,t,(nl.length:Int),.nilFn⟩ nl) nl.length 0 Bnd.zero=(saysP ⟨v,o,q,t,(nl.length:Int),.nilFn⟩ nl).map TG from jp8 _ _ _ _ _]at K;unfold jis at w;generalize saysP ⟨v,o,q,t,(nl.length:Int),.nilFn⟩ nl=P at*;have kC:=jsg nl F (by have:=a.lp;grind) P hP O;simp only[Rul.ds,MB]at K;have G:runF nl [] (P.take (P.length - (P.map TG).length))=[]:=by rw[aH,Nat.sub_self];rfl
   have z:runF nl [] (P.take (P.length - ([]:List (List A)).length))=runF nl [] P:=O1;have H:=ZM (nl:=nl) P [] .nil hP;have y:=jaI nl P [];simp -implicitDefEqProofs[jJ,-qA,-qB,-qC,-qD,-qE,-aD,-qF];refine .inr (.inr (.inr (.inr (.inl (.inl ⟨rfl,[.agg [.d (.str (bs v)),.d (.slice o.length (o.flatMap Pat.ds)),.d (.slice q.length (q.flatMap Pat.ds)),.d (.slice t.length (t.flatMap Pat.ds)),.d (.int .i64 nl.length),.d .nilFn],.c (.sl 25 0 nl.length)],95,[.ptr 6 0,.ptr 9 0],[.agg [.str (bs v),.slice o.length (o.flatMap Pat.ds),.slice q.length (q.flatMap Pat.ds),.slice t.length (t.flatMap Pat.ds),.int .i64 nl.length,.nilFn],.c (.slice nl.length (nl.flatMap Fct.ds))],P.map TG,λY=>QZ nl (runF nl [] (P.take (P.length - Y.length))),[25],[6,9],[80],rfl,?_,K,kC,?_,?_⟩)))))
   ·simp
   ·dsimp only;rw[G,z,Zg];clear kC K J G z w H y;refine⟨O1,?_,?_,?_,O1,?_⟩
    ·intro c I j hj;simp only[jzn,E8,or_false]at I;rcases I with rfl|rfl<;>(simp_all)
    ·intro j b E;simp only[lk]at E;split at E
     ·rename_i e;subst e;cases E;refine⟨O1,O5,?_⟩;intro c I k T;simp_all
     ·split at E
      ·rename_i e;subst e;cases E;refine⟨O1,O1,?_⟩;intro c I k T;simp_all
      ·cases E
    ·simp
    grind[QZ,lk]
   ·dsimp only;rw[z];generalize runF nl [] P=m at*;by_cases hm:m=[]
    ·subst hm;rw[Zg];have M:L=[]:=w.symm;subst M;simp -implicitDefEqProofs[jJ,-qA,-qB,-qC,-qD,-qE,-aD,-qF,St.backX,FA];refine Ac jsH ?_;simp
    ·rw[Ye nl hm];have q1:=λi=>jrP i m true (by simp at y;omega) H;have hlL:L.length=m.length:=by grind[jei]
     rw[w]at q1;simp -implicitDefEqProofs[jJ,-qA,-qB,-qC,-qD,-qE,-aD,-qF,St.backX,FA];refine .inr (.inl (Hn (q1 80) (by simp[DB,U.all,C.id?]) (by simp[lk]) ?_));simp_all[aD,jaW,Int.natCast_add,Int.natCast_mul,Int.natCast_emod,Int.natCast_ediv,Int.natCast_pow,XW,SS,jcn,WN,jeM,jgi,Sy,jjm,Pc,VD,TV,jf4,QG,jfQ,jcP,jhO,jer,jhd,jfc,Xt,jca,jfu,jap,jcG,jaL,List.reduceReplicate,St.backW]
 grind
theorem jaj(n:Int):CallsF prog 78 [.c (.int .i64 n)] (.u (.c (.d (.str (bs (if n=0 then [103,105,118,101,110] else (rulT n).name)))))):=by
 have a:=Yz n;generalize rulT n=r at*;simp only[Rul.res,Rul.ds,MB]at a;refine cO func78 rfl ?_;by_cases h:n=0
 ·refine rF1 h ?_;rfl
 ·refine rF1 h ?_;refine Ac a ?_;exact kF
@[simp]theorem jvk(l:List Grd):(l.flatMap Grd.ds).take (l.length*2)=l.flatMap Grd.ds:=Ba (by rw[jbw];omega)
@[simp]theorem jCE(l:List Grd):D.slice l.length (l.flatMap Grd.ds)=Dd l:=rfl
@[simp]theorem src_grds(j:TI)(a:St)(l:List Grd):St.src j (.d (Dd l)) a=if l.length*2=l.length*j.size then some (l.length,l.flatMap Grd.ds) else none:=by
 unfold Dd St.src;simp only[jbw]
theorem FndOk.sub{L M:List Fnd}(h:FndOk L)(a:M.Sublist L):FndOk M:=⟨λx b=>h.rt x (a.subset b),λx b=>h.sh x (a.subset b),h.nd.sublist a⟩
def U0(L:List Fnd)(F:Fct):List Grd×Bool:=match L.find? (λx=>decide (C2 x.fact F=0))with|some x=>(x.grds,true)|none=>([],false)
theorem jy1(n:Int)(r:List Fct)(f:Fct)(o:f.Mild)(L:List Fnd)(v:FndOk L)(w:L.length<=100000000000)(t:CallsF prog 53 [.c (.int .i64 n),.c (C1 r)] (.u (.c (.d (Tk L))))):
  CallsF prog 20 [.c (.int .i64 n),.c (C1 r),.agg f.ds] (.tup (if (normF f).kind=0 then [.c (.d (.slice 0 [])),.c (.d (.bool false))] else [.c (.d (Dd (U0 L (normF f)).1)),.c (.d (.bool (U0 L (normF f)).2))])):=by
 have q:=jb0 f o;have a:=NW (f:=f) o;simp only[Fct.ds]at q;generalize normF f=F at*;refine cO func20 rfl ?_;refine rF ?_;refine Ac q ?_;simp -implicitDefEqProofs[jJ,-qA,-qB,-qF,Fct.res];refine⟨λj=> ?_,λj=> ?_⟩
 ·rw[if_pos j];exact kF
 ·have a:=a j;rw[if_neg j];refine aF t ?_;refine AV (λi:Nat=>⟨[(20,vI .i64 i),(19,vI .i64 L.length),(18,vC (.d (Tk L))),(8,vC (.ptr 8 0))],[(8,.box [.d (.int .i64 F.kind),.d (AT F.args),.d (.bool F.neg),.d (Ad F.abs),.d (Ad F.den)])]⟩)
   (λi=>i<=L.length/\U0 (L.drop i) F=U0 L F) (λi=>L.length - i) 0 (by simp[AW,lk,St.le,vI,vC]) ⟨O,rfl⟩ ?_
  rintro i ⟨hi,g⟩;by_cases h:i<L.length
  ·have m:=jlX h;have p:=v.rt L[i] (AZ h);have l:=jhR L[i].fact F p.mild a.mild p.num a.num;have e:U0 (L.drop i) F=if C2 L[i].fact F=0 then (L[i].grds,true) else U0 (L.drop (i+1)) F:=by
    unfold U0;rw[BQ h,List.find?_cons];by_cases b:C2 L[i].fact F=0<;>simp[b]
   simp only[Fct.ds]at l;rw[e]at g;by_cases b:C2 L[i].fact F=0
   ·rw[if_pos b]at g;rw[<-g];refine rF2 h m ?_;refine Ac l ?_;simp -implicitDefEqProofs[jJ,-qA,-qB,-qF,b]
   ·rw[if_neg b]at g;refine rF2 h m ?_;refine Ac l ?_;refine rF1 b ?_;exact⟨O,⟨O,g⟩,O⟩
  ·have k:i=L.length:=O;subst k;have e:U0 L F=([],false):=by rw[<-g,List.drop_length];rfl
   rw[e];refine rF ?_;rfl
end Go.Va
namespace Go.Va
open _root_.List renaming pairwise_cons → aD
def UC(a:Int):List Int->List Int
 |[]=>[a]
 |b::l=>if a<=b then a::b::l else b::UC a l
def jbh:List Int->List Int
 |[]=>[]
 |a::l=>UC a (jbh l)
theorem jmK(a:Int): ∀l,(UC a l).Perm (a::l)
 |[]=>List.Perm.refl _
 |b::l=>by
  unfold UC;split
  ·exact List.Perm.refl _
  ·exact((jmK a l).cons b).trans (List.Perm.swap a b l)
theorem jg9: ∀l,(jbh l).Perm l
 |[]=>List.Perm.refl _
 |a::l=>(jmK a _).trans ((jg9 l).cons a)
theorem jqv(a:Int): ∀l:List Int,l.Pairwise (· <= ·)->(UC a l).Pairwise (· <= ·)
 |[],_=>by simp[UC]
 |b::l,h=>by
  rw[aD]at h;unfold UC;split
  ·rename_i e;rw[aD,aD];refine⟨λx hx=> ?_,h.1,h.2⟩;rcases jzn.1 hx with rfl|hx
   ·exact e
   ·have:=h.1 x hx;omega
  ·rename_i e;rw[aD];refine⟨λx hx=> ?_,jqv a l h.2⟩;rcases jzn.1 ((jmK a l).mem_iff.1 hx)with rfl|hx
   ·omega
   ·exact h.1 x hx
theorem jk4: ∀l:List Int,(jbh l).Pairwise (· <= ·)
 |[]=> .nil
 |a::l=>jqv a _ (jk4 l)
theorem jem(l:List Int):LI l=jbh l:=(jmG (jg9 l) (jk4 l)).symm
end Go.Va
namespace Go.Va
open Go.Proofs

deriving instance DecidableEq for Fnd
def ex1:Fct:=⟨5,[3,1,2],false,[],[]⟩
def ex2:Fct:=⟨5,[4,0,2],false,[],[]⟩
def ex3:Fct:=⟨1,[0,1,2],false,[],[]⟩
theorem jwM(n:Int)(a:List Fct)(j: ∀f∈a,f.Mild)(m:a.length<=3):FndOk (SV n a)/\(SV n a).length<=100000000000:=by
 unfold SV;split
 ·exact⟨.nil,O1⟩
 split
 ·exact⟨.nil,O1⟩
 ·rename_i t r;have i: ∀f∈a.map normF,f.Rt:=λf l=>by
   obtain⟨g,p,rfl⟩:=jzk.1 l;refine NW (j g p) λq=>r (List.any_eq_true.2 ⟨_,l,by simpa using q⟩)
  have o:=jde _ (jcL n) _ i;have v:=jo0 _ (jcL n) _ i (by simpa using m);have b:=ZM (nl:=a.map normF) _ [] .nil o;have e:=jaI (a.map normF) (saysP (rulT n) (a.map normF)) [];unfold jis;refine⟨⟨λx k=>b.rt x ((TF _).mem_iff.1 k),λx k=>b.sh x ((TF _).mem_iff.1 k),?_⟩,?_⟩
  ·exact((TF _).pairwise_iff (λh=>Ne.symm h)).2 b.nd
  ·rw[jei];simp at e;omega
theorem jBK(n:Int)(a:List Fct)(e: ∀f∈a,f.Mild)(g:(rulT n).derive= .nilFn)(b:(rulT n).count=((rulT n).prem.length:Int))(h:a.length<=1099511627776):
  CallsF Tryz.prog 53 [.c (.int .i64 n),.c (C1 a)] (.u (.c (.d (Tk (SV n a))))):=by
 have q:=(jyA n a e g b h).dat;simp only[R.dat,RU.dat,RC.dat]at q;rw[jfF]at q;exact q
theorem ju7(k:Nat)(a:k≠4)(b:k≠9):(DW k).derive= .nilFn/\(DW k).count=0:=by
 unfold DW;split<;>first|exact absurd rfl a|exact absurd rfl b|exact⟨rfl,rfl⟩
theorem jjX(n:Int)(e:n≠4)(f:n≠9):(rulT n).derive= .nilFn/\(rulT n).count=((rulT n).prem.length:Int):=by
 obtain⟨a,b⟩:=ju7 n.toNat O O;refine⟨a,?_⟩;show(DW n.toNat).count+((DW n.toNat).prem.length:Int)=_;rw[b,Int.zero_add];rfl
end Go.Va
namespace Go.Va
open _root_.List renaming flatMap_cons → aD, length_drop → aG, flatMap_nil → aH, map_append → aI, append_nil → aJ
open Int renaming natCast_add → qA, natCast_mul → qB, natCast_emod → qC, natCast_ediv → qD, natCast_pow → qE
open List renaming reduceReplicate → qF
open Go.Proofs Go.Proofs.Tryz
def jky:List (List Nat):=(Ah [0,0,3,7,0,0,48,112,255])
@[simp]def jj6:List Seg:=[.any [] [] (Aq [[0],[5],[18,19],[20],[1],[5],[22,23],[24]]),.one]
def jp0:List (List Nat):=(Ah [0,0,3,7,0,0,48,112,255])
@[simp]def js7:List Seg:=[.any [] [] (Aq [[0],[5],[27,28],[29],[1],[5],[31,32],[33]]),.one]
def jqQ:List (List Nat):=(Ah [0,0,3,7,0,0,48,112,255,511])
@[simp]def jqg:List Seg:=[.any [] [] (Aq [[0],[5],[17,18],[19],[1],[5],[21,22],[23]]),.one,.one]
def cmpLL:List Int->List Int->Int
 |[],b=>0 - (b.length:Int)
 |a::x,[]=>((a::x).length:Int)
 |a::x,b::y=>if a<b then -1 else if b<a then 1 else cmpLL x y
variable{i:Nat}
theorem jlW{a b:List Int}(e:i<a.length)(f:i<b.length):cmpLL (a.drop i) (b.drop i)=if a[i]<b[i] then -1 else if b[i]<a[i] then 1 else cmpLL (a.drop (i+1)) (b.drop (i+1)):=by
 rw[BQ e,BQ f,cmpLL]
theorem ja9{a b:List Int}(j:i<=a.length)(k:i<=b.length)(h:i=a.length\/i=b.length):cmpLL (a.drop i) (b.drop i)=(a.length:Int) - b.length:=by
 rcases Nat.lt_or_ge i a.length with h1|h1
 ·have g:i=b.length:=O;rw[DU (by omega:b.length<=i)];have e:(a.drop i).length=a.length - i:=aG;cases f:a.drop i with
  |nil=>rw[f]at e;simp at e;omega
  |cons x l=>rw[cmpLL,<-f,e];omega
 ·rw[DU h1,cmpLL,aG];omega
theorem jdd: ∀a b:List Int,cmpLL a b=0↔a=b
 |[],[]=>by simp[cmpLL]
 |[],b::y=>by simp[cmpLL];omega
 |a::x,[]=>by simp[cmpLL];omega
 |a::x,b::y=>by
  have:=jdd x y;rw[cmpLL];split
  ·simp;omega
  ·split
   ·simp;omega
   ·rw[this];simp;omega
theorem jjP(a b:List Int)(m:a.length<=1000000)(o:b.length<=1000000):CallsF prog 122 [.c (AT a),.c (AT b)] (.u (.c (.d (.int .i64 (cmpLL a b))))):=by
 refine oA func122 ?_;refine AV (λi:Nat=>⟨[(5,vI .i64 i),(0,vC (.d (AT a))),(1,vC (.d (AT b)))],[]⟩) (λi=>i<=a.length/\i<=b.length/\cmpLL (a.drop i) (b.drop i)=cmpLL a b) (λi=>a.length - i) 0 (by simp[AW,lk,St.le,vI,vC]) ⟨O,O,rfl⟩ ?_;rintro i ⟨k,l,f⟩;by_cases e:i<a.length
 ·by_cases g:i<b.length
  ·rw[jlW e g]at f;by_cases h:a[i]<b[i]
   ·rw[if_pos h]at f;rw[<-f];refine rA2 e g ?_;refine AA jky jj6 O5 ?_;simp -implicitDefEqProofs[jJ,-qA,-qB,e,g,h,i64]
   ·rw[if_neg h]at f;by_cases j:b[i]<a[i]
    ·rw[if_pos j]at f;rw[<-f];refine rA2 e g ?_;refine AA jky jj6 O5 ?_;refine rD3 e g h ?_;refine AA jp0 js7 O5 ?_;simp -implicitDefEqProofs[jJ,-qA,-qB,e,g,j,i64]
    ·rw[if_neg j]at f;refine rA2 e g ?_;refine AA jky jj6 O5 ?_;refine rD3 e g h ?_;refine AA jp0 js7 O5 ?_;refine rD3 e g j ?_;exact⟨O,⟨O,O,f⟩,O⟩
  ·rw[ja9 k l O]at f;refine rA2 e g ?_;omega
 ·rw[ja9 k l O]at f;refine rA1 e ?_;omega
def TX(a b:Grd):Int:=if a.kind≠b.kind then a.kind - b.kind else cmpLL a.args b.args
theorem cmpGd_zero{a b:Grd}:TX a b=0↔a=b:=by
 unfold TX;obtain⟨k,l⟩:=a;obtain⟨f,g⟩:=b;simp only[Grd.mk.injEq];by_cases h:k=f
 ·rw[if_neg (by simp[h]),jdd];simp[h]
 ·rw[if_pos h];constructor
  ·intro e;omega
  ·intro e;exact absurd e.1 h
theorem jki(a b:Grd)(e:a.Short)(f:b.Short)(hk:a.kind=b.kind\/(-1000<=a.kind/\a.kind<=1000/\ -1000<=b.kind/\b.kind<=1000)):CallsF prog 61 [.agg a.ds,.agg b.ds] (.u (.c (.d (.int .i64 (TX a b))))):=by
 have k:=jjP a.args b.args e f;unfold TX;simp only[Grd.ds];generalize cmpLL a.args b.args=r at*;refine cO func61 rfl ?_;by_cases h:a.kind=b.kind
 ·refine rA1 h ?_;refine Ac k ?_;exact kA
 ·have hk: -1000<=a.kind/\a.kind<=1000/\ -1000<=b.kind/\b.kind<=1000:=by rcases hk with hk|hk;exact absurd hk h;exact hk
  refine rA1 h ?_;omega
theorem jul(a b:List Grd)(x: ∀g∈a,g.Short)(y: ∀g∈b,g.Short)(F:a.length<=1099511627776)(z: ∀g∈a,∀h∈b,g.kind=h.kind\/(-1000<=g.kind/\g.kind<=1000/\ -1000<=h.kind/\h.kind<=1000)\/a=b):
  CallsF prog 29 [.c (Dd a),.c (Dd b)] (.u (.c (.d (.bool (decide (a=b)))))):=by
 have k: ∀i (o:i<a.length) (p:i<b.length),CallsF prog 61 [.agg a[i].ds,.agg b[i].ds] (.u (.c (.d (.int .i64 (TX a[i] b[i]))))):=λi o p=>by
  refine jki _ _ (x _ (AZ o)) (y _ (AZ p)) ?_;rcases z _ (AZ o) _ (AZ p)with h|h|h
  ·exact .inl h
  ·exact .inr h
  ·subst h;exact .inl rfl
 simp only[Grd.ds]at k;clear x y z;refine cO func29 rfl ?_;by_cases m:a.length=b.length
 ·refine rA1 m ?_;refine AV (λi:Nat=>⟨[(5,vI .i64 i),(0,vC (.d (Dd a))),(1,vC (.d (Dd b)))],[]⟩) (λi=>i<=a.length/\a.take i=b.take i) (λi=>a.length - i) 0 (by simp[AW,lk,St.le,vI,vC]) ⟨O,O1⟩ ?_;rintro i ⟨hi,q⟩;by_cases h:i<a.length
  ·have j:i<b.length:=O;have v:=X9 h;have w:=X9 j;have k:=k i h j;have E:= @cmpGd_zero a[i] b[i];generalize TX a[i] b[i]=r at*;by_cases l:r=0
   ·refine rA1 h ?_;refine AA jqQ jqg O5 ?_;simp -implicitDefEqProofs[jJ,-qA,-qB,h,j,v,w];refine aA1 l k ?_;refine⟨O,⟨O,?_⟩,O⟩;rw[Cr h,Cr j,q,E.1 l]
   ·have f: ¬a=b:=λe=>l (E.2 (by subst e;rfl));refine rA1 h ?_;refine AA jqQ jqg O5 ?_;simp -implicitDefEqProofs[jJ,-qA,-qB,h,j,v,w];refine Ac k ?_;exact kA2 l f
  ·have t:i=a.length:=O;subst t;rw[BM,m,BM]at q;exact kA1 q
 ·have f: ¬a=b:=λe=>m (by rw[e]);exact kA2 m f
def jrV:List (List Nat):=(Ah [0,0,3,7,0,0,48,112,255,511])
@[simp]def jpS:List Seg:=[.any [] [] (Aq [[0],[5],[23,24],[25],[1],[5],[27,28],[29]]),.one,.one]
def Yv:List Grd->List Grd->Bool
 |a::l,b::m=>if TX a b=0 then Yv l m else decide (TX a b<0)
 |_,_=>false
def jhA(a b:List Grd):Bool:=if a.length=b.length then Yv a b else decide (a.length<b.length)
theorem jyT(l:List Grd):Yv [] l=false:=by cases l<;>rfl
theorem jvt(a b:List Grd)(v: ∀g∈a,g.Short)(w: ∀g∈b,g.Short)(y:a.length<=1099511627776)
  (x: ∀g∈a,∀h∈b,g.kind=h.kind\/(-1000<=g.kind/\g.kind<=1000/\ -1000<=h.kind/\h.kind<=1000)):
  CallsF prog 299 [.c (Dd a),.c (Dd b)] (.u (.c (.d (.bool (jhA a b))))):=by
 have k: ∀i (m:i<a.length) (o:i<b.length),CallsF prog 61 [.agg a[i].ds,.agg b[i].ds] (.u (.c (.d (.int .i64 (TX a[i] b[i]))))):=λi m o=>
  jki _ _ (v _ (AZ m)) (w _ (AZ o)) (x _ (AZ m) _ (AZ o))
 simp only[Grd.ds]at k;clear v w x;unfold jhA;refine cO func299 rfl ?_;by_cases l:a.length=b.length
 ·rw[if_pos l];refine rA1 l ?_;refine AV (λi:Nat=>⟨[(5,vI .i64 i),(0,vC (.d (Dd a))),(1,vC (.d (Dd b)))],[]⟩) (λi=>i<=a.length/\Yv a b=Yv (a.drop i) (b.drop i)) (λi=>a.length - i) 0 (by simp[AW,lk,St.le,vI,vC]) ⟨O,O1⟩ ?_;rintro i ⟨hi,e⟩;by_cases h:i<a.length
  ·have f:i<b.length:=O;have q:=X9 h;have t:=X9 f;have k:=k i h f;rw[BQ h,BQ f,Yv]at e;generalize TX a[i] b[i]=r at*;by_cases j:r=0
   ·rw[if_pos j]at e;refine rA1 h ?_;refine AA jrV jpS O5 ?_;simp -implicitDefEqProofs[jJ,-qA,-qB,h,f,q,t];refine aA1 j k ?_;exact⟨O,⟨O,e⟩,O⟩
   ·rw[if_neg j]at e;refine rA1 h ?_;refine AA jrV jpS O5 ?_;simp -implicitDefEqProofs[jJ,-qA,-qB,h,f,q,t];refine Ac k ?_;exact kA2 j e
  ·have p:i=a.length:=O;subst p;rw[List.drop_length,jyT]at e;exact kA1 e
 ·rw[if_neg l];exact kA1 l
def jp5:List (List Nat):=(Ah [0,0,2,7,15,31,31,0,191,511])
@[simp]def js8:List Seg:=[.any [] [4] [⟨0,[],[4],[4],[]⟩,⟨0,[1],[4],[4],[]⟩,⟨0,[20],[4],[4],[]⟩,⟨0,[19,21],[4],[4],[]⟩,⟨0,[22],[4],[4],[]⟩,⟨0,[18],[4],[4],[]⟩,⟨0,[18],[4],[4],[]⟩,⟨1,[],[],[],[]⟩,⟨2,[4,23],[],[],[4]⟩],.one]
def jq3:List (List Nat):=(Ah [0,0,2,0,8,24,56,0,128,384,896,0,2048,6144,14336,0,32768,98304,229376,524280,0,2097150,4194302,8388607,16777215])
@[simp]def joP:List Seg:=[.any [] [46,49] ([⟨0,[3],[49],[46,49],[]⟩]++AG [46,49] [[1],[28],[1],[30],[31],[32],[1],[34],[35],[36],[1],[38],[39],[40],[1],[42],[43],[44]]++[⟨4,[33,37,41,45],[],[49],[]⟩]++[⟨0,[4],[],[46,49],[]⟩]++[⟨0,[29,46,47],[],[49],[]⟩]++[⟨1,[48],[],[],[]⟩]),.one,.one]
def rdR(f:Fct):List Fct:=
 if f.kind=4 then [⟨9,f.args,false,limbs 1,limbs 1⟩,⟨9,[f.args.getD 2 0,f.args.getD 3 0,f.args.getD 0 0,f.args.getD 1 0],false,limbs 1,limbs 1⟩]
 else if f.kind=9 then f::(if val f.abs=0 then [] else [⟨9,[f.args.getD 2 0,f.args.getD 3 0,f.args.getD 0 0,f.args.getD 1 0],f.neg,f.den,f.abs⟩])
 else []
theorem jBp(f:Fct)(a:f.kind≠4)(b:f.kind≠9):CallsF prog 347 [.agg f.ds] (.u (.c (.own 5 0 []))):=by
 refine cO func347 rfl ?_;obtain⟨e,args,i,g,h⟩:=f;simp only at a b;exact kA2 a b
theorem jyX(a b c d:Int)(neg:Bool)(m e:Nat)(l:m<340282366920938463463374607431768211456)(j:e<340282366920938463463374607431768211456)(h:e≠0)(k:Nat.gcd m e=1):
  CallsF prog 347 [.agg [.int .i64 9,AT [a,b,c,d],.bool neg,Ad (limbs m),Ad (limbs e)]]
   (.u (.c (.own 5 (rdR ⟨9,[a,b,c,d],neg,limbs m,limbs e⟩).length ((rdR ⟨9,[a,b,c,d],neg,limbs m,limbs e⟩).flatMap Fct.ds)))):=by
 have o:=jd8 1 O;have p:=jnm neg m e l j h k;have g:=Az m;refine oA func347 ?_;refine AA jp5 js8 O5 ?_;refine rA ?_;refine aA o ?_;refine Ae p ?_;by_cases f:m=0
 ·subst f;refine rA ?_;simp[rdR,g]
 ·refine rA1 f ?_;refine AA jq3 joP O5 ?_;refine rA ?_;have i:rdR ⟨9,[a,b,c,d],neg,limbs m,limbs e⟩=[⟨9,[a,b,c,d],neg,limbs m,limbs e⟩,⟨9,[c,d,a,b],neg,limbs e,limbs m⟩]:=by simp[rdR,g,f]
  rw[i];exact⟨rfl,rfl,rfl⟩
theorem jxW(a b c d:Int)(neg:Bool)(x y:List Nat):
  CallsF prog 347 [.agg [.int .i64 4,AT [a,b,c,d],.bool neg,Ad x,Ad y]]
   (.u (.c (.own 5 (rdR ⟨4,[a,b,c,d],neg,x,y⟩).length ((rdR ⟨4,[a,b,c,d],neg,x,y⟩).flatMap Fct.ds)))):=by
 have e:=jd8 1 O;have g:=jnm false 1 1 O O O O5;refine oA func347 ?_;refine AA (Ah [0,1,0,7,15]) [.any [] [] (Aq [[1],[9],[]]),.one,.one] O5 ?_;refine rA ?_;refine aA e ?_;refine AA jp5 js8 O5 ?_;refine rA ?_;refine aA e ?_;refine aA g ?_;refine AA jq3 joP O5 ?_;refine rA ?_;have f:rdR ⟨4,[a,b,c,d],neg,x,y⟩=[⟨9,[a,b,c,d],false,limbs 1,limbs 1⟩,⟨9,[c,d,a,b],false,limbs 1,limbs 1⟩]:=by simp[rdR]
 rw[f];exact⟨rfl,rfl,rfl⟩
structure Fct.Rto (f:Fct):Prop where
 kind:f.kind=9
 args: ∃a b c d,f.args=[a,b,c,d]
 mild:f.Mild
 den:val f.den≠0
theorem V8(f:Fct)(h:f.Rt):CallsF prog 347 [.agg f.ds] (.u (.c (.own 5 (rdR f).length ((rdR f).flatMap Fct.ds))))/\(∀g∈rdR f,g.Rto)/\(rdR f).length<=2:=by
 obtain⟨H,w,I,x⟩:=h.parts;have m:=h.mild;obtain⟨k,args,l,i,j⟩:=f;simp only at H w I x;by_cases v:k=9
 ·subst v;rw[if_pos rfl]at x;obtain⟨E,F,r,G,J⟩:=Cz x m.oa m.od;obtain⟨a,b,c,d,rfl⟩: ∃a b c d,args=[a,b,c,d]:=by
   match args,w with
   |[a,b,c,d],_=>exact⟨a,b,c,d,rfl⟩
  have y:=jak m.oa (by have:=m.la;simp only at this ⊢;omega);have z:=jak m.od (by have:=m.ld;simp only at this ⊢;omega);simp only at E F y z;have k:=jyX a b c d l (val i) (val j) y z r G;rw[<-E,<-F]at k;refine⟨k,?_,?_⟩
  ·intro g q;by_cases p:val i=0
   ·have:g=⟨9,[a,b,c,d],l,i,j⟩:=by simpa [rdR,p]using q
    subst this;exact⟨rfl,⟨a,b,c,d,rfl⟩,m,r⟩
   ·have:g=⟨9,[a,b,c,d],l,i,j⟩\/g=⟨9,[c,d,a,b],l,j,i⟩:=by simpa [rdR,p]using q
    rcases this with rfl|rfl
    ·exact⟨rfl,⟨a,b,c,d,rfl⟩,m,r⟩
    ·exact⟨rfl,⟨c,d,a,b,rfl⟩,⟨m.ld,m.la,m.od,m.oa,O1⟩,p⟩
  ·by_cases p:val i=0<;>simp[rdR,p]
 ·by_cases t:k=4
  ·subst t;obtain⟨a,b,c,d,rfl⟩: ∃a b c d,args=[a,b,c,d]:=by
    match args,w with
    |[a,b,c,d],_=>exact⟨a,b,c,d,rfl⟩
   refine⟨jxW a b c d l i j,?_,?_⟩
   ·intro g q;have:g=⟨9,[a,b,c,d],false,limbs 1,limbs 1⟩\/g=⟨9,[c,d,a,b],false,limbs 1,limbs 1⟩:=by simpa [rdR]using q
    have o:(limbs 1).length<=8:=O2;rcases this with rfl|rfl
    ·exact⟨rfl,⟨a,b,c,d,rfl⟩,⟨o,o,Aw _,Aw _,O1⟩,by rw[Az];omega⟩
    ·exact⟨rfl,⟨c,d,a,b,rfl⟩,⟨o,o,Aw _,Aw _,O1⟩,by rw[Az];omega⟩
   ·simp[rdR]
  ·have e:rdR ⟨k,args,l,i,j⟩=[]:=by simp[rdR,v,t]
   rw[e];exact⟨jBp ⟨k,args,l,i,j⟩ t v,O1,O1⟩
def UQ(f g:Fct):Fct:=
 let m:=val f.abs*val g.abs;let d:=val f.den*val g.den
 ⟨9,[f.args.getD 0 0,f.args.getD 1 0,g.args.getD 2 0,g.args.getD 3 0],sg (!decide (f.neg=g.neg)) m,limbs (m/Nat.gcd m d),limbs (d/Nat.gcd m d)⟩
def WQ(f g:Fct):Bool:=decide (AQ (f.args.getD 2 0) (f.args.getD 3 0)=AQ (g.args.getD 0 0) (g.args.getD 1 0))
def Wz(f:Fct)(R:List Fct)(j:Nat):List Fct:=(R.drop j).flatMap λg=>if WQ f g then [UQ f g] else []
def UJ(F R:List Fct)(i:Nat):List Fct:=(F.drop i).flatMap λf=>Wz f R 0
def RI(f:Fct):List A:=[.agg f.ds]
def W7(f:Fct)(R:List Fct)(j:Nat):List (List A):=(Wz f R j).map RI
def X3(F R:List Fct)(i:Nat):List (List A):=(UJ F R i).map RI
theorem jB9{f:Fct}{R:List Fct}{j:Nat}(h:j<R.length):W7 f R j=(if WQ f R[j] then [RI (UQ f R[j])] else [])++W7 f R (j+1):=by
 unfold W7 Wz;rw[BQ h,aD,aI];split<;>rfl
theorem jvi(f:Fct)(R:List Fct):W7 f R R.length=[]:=by simp[W7,Wz]
theorem jxS{F R:List Fct}(h:i<F.length):X3 F R i=W7 F[i] R 0++X3 F R (i+1):=by
 unfold X3 UJ W7;rw[BQ h,aD,aI]
theorem juk(F R:List Fct):X3 F R F.length=[]:=by simp[X3,UJ]
theorem jAc(x:Value)(p q:Fct)(Y:p.Rt)(Z:q.Rt):
  Gy prog x 270 [.c (C1 [p,q]),.c (.lit x)] (X3 (rdR p) (rdR q) 0):=by
 obtain⟨H,S,lp⟩:=V8 p Y;obtain⟨I,W,lq⟩:=V8 q Z;generalize rdR p=F at*;generalize rdR q=R at*;refine Ps (T:=tb) Ak mixed func270 rfl O2 (Al rfl) rfl rfl ?_;intro g;unfold St.initY;simp only[C1,aD,aH,aJ,Fct.ds,List.cons_append,List.nil_append,List.length_cons,List.length_nil]at H I ⊢;simp -implicitDefEqProofs[jJ,-qA,-qB,-qC,-qD,-qE,-qF];refine Ac H ?_;simp -implicitDefEqProofs[jJ,-qA,-qB,-qC,-qD,-qE,-qF];refine AV (λi:Nat=>⟨[(1000000,.tr x (X3 F R i++g)),(13,vI .i64 i),(12,vI .i64 F.length),(11,vC (.sl 11 0 F.length)),(0,vC (.d (.slice 2 [.int .i64 p.kind,AT p.args,.bool p.neg,Ad p.abs,Ad p.den,.int .i64 q.kind,AT q.args,.bool q.neg,Ad q.abs,Ad q.den]))),(1,vC (.d (.lit x)))],
  [(11,.row 5 (F.flatMap Fct.ds) true)]⟩) (λi=>i<=F.length) (λi=>F.length - i) 0 (by simp[AW,lk,St.le,vI,vC]) O ?_
 rintro i hi;by_cases h:i<F.length
 ·obtain⟨f9,⟨a,b,c,d,v⟩,l,Q⟩:=S F[i] (AZ h);have e:=jxS (R:=R) h;rw[e];have L:=jmt F i h;simp -implicitDefEqProofs[jJ,-qA,-qB,-qC,-qD,-qE,-qF,h,L];refine⟨O,?_⟩;refine Ac I ?_;simp -implicitDefEqProofs[jJ,-qA,-qB,-qC,-qD,-qE,-qF];refine AV (λj:Nat=>⟨[(1000000,.tr x (W7 F[i] R j++(X3 F R (i+1)++g))),(22,vI .i64 j),(21,vI .i64 R.length),(20,vC (.sl 20 0 R.length)),(13,vI .i64 i),(12,vI .i64 F.length),(11,vC (.sl 11 0 F.length)),(5,vC (.ptr 5 0)),(0,vC (.d (.slice 2 [.int .i64 p.kind,AT p.args,.bool p.neg,Ad p.abs,Ad p.den,.int .i64 q.kind,AT q.args,.bool q.neg,Ad q.abs,Ad q.den]))),(1,vC (.d (.lit x)))],
   [(20,.row 5 (R.flatMap Fct.ds) true),(11,.row 5 (F.flatMap Fct.ds) true),(5,.box [.d (.int .i64 F[i].kind),.d (AT F[i].args),.d (.bool F[i].neg),.d (Ad F[i].abs),.d (Ad F[i].den)])]⟩) (λj=>j<=R.length) (λj=>R.length - j) 0 (by simp[AW,lk,St.le,vI,vC]) O ?_
  rintro j hj;by_cases o:j<R.length
  ·obtain⟨g9,⟨r,t,J,K,w⟩,m,X⟩:=W R[j] (AZ o);have M:=jmt R j o;have N:=jB9 (f:=F[i]) o;rw[N];have s1:=jcB c d;have s2:=jcB r t;simp -implicitDefEqProofs[jJ,-qA,-qB,-qC,-qD,-qE,-qF,o,M,v,w];refine⟨O,?_⟩;refine AA (Ah [0,1,3,7,0,16,48,112,255,0,512,1536,3584,0,8192,24576,57344,131071,262143]) [.any [] [] (Aq [[5],[26],[27],[28],[5],[30],[31],[32],[29,33],[7],[35],[36],[37],[7],[39],[40],[41]]),.one,.one] O5 ?_;simp -implicitDefEqProofs[jJ,-qA,-qB,-qC,-qD,-qE,-qF,i64];refine Ae s1 ?_;simp -implicitDefEqProofs[jJ,-qA,-qB,-qC,-qD,-qE,-qF,i64];refine Ac s2 ?_;have k:WQ F[i] R[j]=(decide (lo c d=lo r t)&&decide (Va.hi c d=Va.hi r t)):=by
    unfold WQ AQ;rw[v,w];simp
   have km:=jxJ F[i].neg R[j].neg F[i].abs F[i].den R[j].abs R[j].den l.oa (by have:=l.la;omega) l.od (by have:=l.ld;omega) m.oa (by have:=m.la;omega) m.od (by have:=m.ld;omega) Q X;simp -implicitDefEqProofs[jJ,-qA,-qB,-qC,-qD,-qE,-qF];refine⟨λG q2=> ?_,λG=> ?_⟩
   ·have E:WQ F[i] R[j]=true:=by rw[k];simp[G,q2]
    rw[if_pos E];refine AA (Ah [0,0,2,6,14,0,32,96,224,0,512,1536,3584,0,8192,24576,57344,131070,0,262144,0,1048576,3932160,8388606,16777215]) [.any [] [62] (AG [62] [[1],[5],[46],[47],[48],[5],[50],[51],[52],[7],[54],[55],[56],[7],[58],[59],[60]]++[⟨4,[49,53,57,61],[],[],[]⟩]++AG [62] [[5],[63],[7],[65],[64,66]]++[⟨0,[62,67],[],[],[]⟩]),.one] O5 ?_;simp -implicitDefEqProofs[jJ,-qA,-qB,-qC,-qD,-qE,-qF];refine Ae km ?_;have P:RI (UQ F[i] R[j])=[.agg [.int .i64 9,.slice 4 [i64 a,i64 b,i64 J,i64 K],.bool (sg (!decide (F[i].neg=R[j].neg)) (val F[i].abs*val R[j].abs)),Ad (limbs (val F[i].abs*val R[j].abs/Nat.gcd (val F[i].abs*val R[j].abs) (val F[i].den*val R[j].den))),Ad (limbs (val F[i].den*val R[j].den/Nat.gcd (val F[i].abs*val R[j].abs) (val F[i].den*val R[j].den)))]]:=by
     unfold RI UQ;rw[v,w];rfl
    simp -implicitDefEqProofs[jJ,-qA,-qB,-qC,-qD,-qE,-qF,RB];rw[P];refine⟨_,W7 F[i] R (j+1)++(X3 F R (i+1)++g),by simp[lk];rfl,by simp[St.argsW,U.toA,toD,lk],?_⟩;simp only[St.reachU,aD,aH,U.all,aJ,Oj,ND];simp -implicitDefEqProofs[jJ,-qA,-qB,-qC,-qD,-qE,-qF,St.backY,St.rest];exact⟨O,j+1,⟨rfl,rfl⟩,O,O⟩
   ·have z: ¬WQ F[i] R[j]=true:=by
     rw[k];simp only[AR,decide_eq_true_eq,not_and];exact G
    rw[if_neg z];exact⟨O,j+1,⟨rfl,rfl⟩,O,O⟩
  ·have:j=R.length:=O;subst this;rw[jvi];simp -implicitDefEqProofs[jJ,-qA,-qB,-qC,-qD,-qE,-qF];exact⟨O,i+1,⟨rfl,rfl⟩,O,O⟩
 ·have y:i=F.length:=O;subst y;rw[juk];simp -implicitDefEqProofs[jJ,-qA,-qB,-qC,-qD,-qE,-qF,LQ]
end Go.Va
