/- a part of the proof -/
import Derived.Test.YtplacedebenpaaaGreatDoorEbh
import Derived.Test.YtplacedebenpaaaGreatDoorEau
import Derived.Test.YtplacedebenpaaaGreatDoorEbf
set_option linter.all false
set_option maxHeartbeats 4000000
set_option maxRecDepth 100000
namespace Go.Va
open _root_.List renaming pairwise_cons → aD, mem_iff_getElem → aG, mem_cons_of_mem → aH, getD_cons_zero → aI, getD_cons_succ → aJ, length_cons → aL, mem_singleton → aM, mem_flatMap → aN, length_nil → aO, foldl_cons → aP, map_cons → aR, map_map → aS
variable{n:Nmz}{l:List Fnd}{nl:List Fct}{g:List Grd}
theorem jfS{v:Int}(h:0<=v/\v<40):KD false (v+1,0):=by
 unfold KD;grind
theorem jwE{v w:Int}(h:0<=v/\v<40)(k:0<=w/\w<40):KD true (v+1,w+1):=by
 unfold KD;grind
def jcR(sg:Bool)(ls:List UInt8)(a:List OE):Prop:=a.map Prod.fst=ls/\ ∀s∈a,KD sg s.2
theorem jqP: ∀(l:List UInt8) (b:List Int),(∀p∈b,0<=p/\p<40)-> ∀a∈VA l b,jcR false l a
 |[],b,_=>by
  intro a e;rw[VA,aM]at e;subst e;exact⟨rfl,O1⟩
 |c::r,b,k=>by
  intro a e;rw[VA]at e;simp only[aN,jzk,List.mem_range]at e;obtain⟨i,hi,h,f,rfl⟩:=e;obtain⟨m,j⟩:=jqP r _ (λp g=>k p (List.mem_of_mem_eraseIdx g)) h f;refine⟨O3,λs hs=> ?_⟩;rcases jzn.1 hs with rfl|hs
  ·grind[jfS,VZ,List.getElem_mem]
  ·exact j s hs
theorem jmH(sg:Bool): ∀(n:Nat) (ls:List UInt8) (l:List (Int×Int)),ls.length<=n->(∀c∈ls,FD sg c)->(∀s∈l,(0<=s.1/\s.1<40)/\(0<=s.2/\s.2<40))-> ∀a∈FM ls l,jcR sg ls a
 |n,[],l,_,_,_=>by
  have j:FM [] l=[[]]:=by cases l<;>rfl
  rw[j];intro a e;rw[aM]at e;subst e;exact⟨rfl,O1⟩
 |n,x::r,[],_,_,_=>by simp[FM]
 |0,x::r,s::l,h,_,_=>by simp at h
 |n+1,x::r,s::l,h,o,w=>by
  simp only[aL,Nat.add_le_add_iff_right]at h;have y:=w s O1;have i: ∀t∈l,(0<=t.1/\t.1<40)/\(0<=t.2/\t.2<40):=O3;intro a e;by_cases b:97<=x.toNat
  ·have g:=(jbX (o x O1)).1 b;subst g;have j:FM (x::r) (s::l)=(FM r l).map (λa=>(x,(s.1+1,s.2+1))::a):=by
    cases r<;>simp only[FM,if_pos b]
   rw[j,jzk]at e;obtain⟨k,f,rfl⟩:=e;obtain⟨q,m⟩:=jmH true n r l h O3 i k f;refine⟨O3,λt ht=> ?_⟩;rcases jzn.1 ht with rfl|ht
   ·grind[jwE]
   ·exact m t ht
  ·have g:sg=false:=by
    cases sg with
    |true=>exact absurd ((jbX (o x O1)).2 rfl) b
    |false=>rfl
   subst g;cases r with
   |nil=>simp_all[FM,if_neg]
   |cons d r=>
    have j:FM (x::d::r) (s::l)=(FM r l).map (λa=>(x,(s.1+1,0))::(d,(s.2+1,0))::a)++(if s.1=s.2 then [] else (FM r l).map (λa=>(x,(s.2+1,0))::(d,(s.1+1,0))::a)):=by
     simp only[FM,if_neg b]
    have p: ∀u v:Int,(0<=u/\u<40)->(0<=v/\v<40)->a∈(FM r l).map (λa=>((x,(u+1,0))::(d,(v+1,0))::a:List OE))->jcR false (x::d::r) a:=by
     intro u v z E e;obtain⟨k,f,rfl⟩:=jzk.1 e;obtain⟨q,m⟩:=jmH false n r l (by simp at h;omega) O3 i k f;refine⟨O3,λt ht=> ?_⟩;rcases jzn.1 ht with rfl|ht
     ·exact jfS z
     ·rcases jzn.1 ht with rfl|ht
      ·exact jfS E
      ·exact m t ht
    grind
theorem jf8{sg:Bool}{p:Pat}(a:US sg p=true): ∀c∈p.letters,FD sg c:=by
 simp_all[US,AR]
theorem jsR{sg:Bool}{p:Pat}(e:US sg p=true){f:Fct}(i:f.Rt): ∀a∈T4 p f,jcR sg p.letters a:=by
 have q:=jf8 e;have j:=jhE i;have w:=i.parts.2.2.1;unfold US at e;rw[AR]at e;have e:=e.2;intro a b;unfold T4 at b;by_cases m:p.kind=1\/p.kind=6\/p.kind=8
 ·have k:sg=false:=by
   grind
  subst k;rw[if_pos m]at b;split at b
  ·grind[jqP]
  ·cases b
 ·rw[if_neg m]at b;by_cases h:p.kind=5
  ·rw[if_pos h]at b;rw[if_neg O,if_neg O,if_neg O,if_pos h,AR,Bool.not_eq_true',decide_eq_true_eq]at e;obtain⟨rfl,g⟩:=e;obtain⟨r,t,v,g⟩:=RA g;split at b
   ·rw[g]at b ⊢;simp only[aI,aJ,jzn,E8,or_false]at b;have x:=j 0;have y:=j 1;have z:=j 2;rcases b with rfl|rfl<;>(refine⟨rfl,λs o=> ?_⟩;simp only[jzn,E8,or_false]at o;rcases o with rfl|rfl|rfl<;>(grind[jfS]))
   ·cases b
  ·rw[if_neg h,aN]at b;obtain⟨l,g,b⟩:=b;exact jmH sg _ _ l (AO _) q (jpC _ f i l g) a b
theorem joB{sg:Bool}{ls:List UInt8}{a:List OE}(h:jcR sg ls a):Yf sg a=ls.map (UA sg):=by
 unfold Yf;rw[<-h.1,aS];rfl
theorem jvg{sg:Bool}{p:Pat}(E:p.Fit)(q:US sg p=true){f:Fct}(k:f.Rt){b:Bnd}(z:Uc sg b n):
  (∀c∈SB p f b,(∃v∈R6 (Lr sg p) f,∃m,H3 (Lr sg p).letters v n=(m,true)/\Uc sg c m)/\(∀x∈p.letters,KD sg (c.get x))/\ ∀x,Pq x->b.get x≠(0,0)->c.get x=b.get x)/\
  (∀v∈R6 (Lr sg p) f,∀m,H3 (Lr sg p).letters v n=(m,true)-> ∃c∈SB p f b,Uc sg c m):=by
 have K:=jf8 q;have w:=jsR q k;have y: ∀a∈T4 p f,∀s∈a,FD sg s.1/\KD sg s.2:=λa g s F=>by
  obtain⟨I,J⟩:=w a g;grind
 constructor
 ·intro c r;obtain⟨a,g,j⟩:=(js2 E k b c).1 r;have h:=jjD sg a b n (y a g) z;rw[j]at h;obtain⟨m,o,i⟩:=h;have t:=jrk (λs F=>(by grind[jc6])) j;refine⟨⟨vals sg a,(jkr q k _).2 ⟨a,g,rfl⟩,m,?_,i⟩,λx H=> ?_,t.2.1⟩
  ·grind[Lr,Yf,joB]
  ·rw[<-(w a g).1]at H;grind
 ·intro v G m o;obtain⟨a,g,rfl⟩:=(jkr q k v).1 G;have h:=jjD sg a b n (y a g) z;have e:(Lr sg p).letters=Yf sg a:=(joB (w a g)).symm;rw[e]at o;cases j:run a b with
  |none=>
   rw[j]at h;rw[o]at h;cases h
  |some c=>
   rw[j]at h;obtain⟨L,l,i⟩:=h;rw[o]at l;cases l;exact⟨c,(js2 E k b c).2 ⟨a,g,j⟩,i⟩
def UZ(n:Nmz)(q:RPat):Fct:=⟨q.kind,argsR q n,false,if q.kind=9 then limbs q.num.toNat else [],if q.kind=9 then limbs 1 else []⟩
def P3:List RPat->Nmz->List Grd->List Grd×Bool
 |[],_,b=>(b,true)
 |q::e,n,b=>match X0 (argsR q n)with|none=>([],false)|some a=>P3 e n (Ka b ⟨q.kind,a⟩)
def Tm(r:RRul)(n:Nmz):List Fo:=if (P3 r.guards n []).2 then r.to.map λq=>(UZ n q,(P3 r.guards n []).1) else []
theorem jhV{sg:Bool}{b:Bnd}(j:Uc sg b n)(p:Pat)(h: ∀c∈p.letters,FD sg c/\KD sg (b.get c)):argsR (Lr sg p) n=Jg b p.letters/\(∀v∈Jg b p.letters,0<=v/\v<40)/\(Jg b p.letters).length=if sg then 2*p.letters.length else p.letters.length:=by
 obtain⟨k,i,t⟩:=p;simp only at h;unfold argsR Lr Jg;simp only
 induction i with
 |nil=>cases sg<;>simp
 |cons c i m=>
  obtain⟨o,q,r⟩:=m O3;obtain⟨f,g⟩:=h c O1;have a:=jbX f;have l:n.get ((UA sg c).toNat - 97)=Qq sg (b.get c):=by
   rcases j c f with⟨e,_⟩|⟨_,e⟩
   ·exact absurd e (jlt g)
   ·exact e
  have e:(if sg then [(n.get ((UA sg c).toNat - 97)).tdiv 40,(n.get ((UA sg c).toNat - 97)).tmod 40] else [n.get ((UA sg c).toNat - 97)])=QT b c/\(∀v∈QT b c,0<=v/\v<40)/\(QT b c).length=if sg then 2 else 1:=by
   rw[l,jvJ];unfold Qq KD at*;cases sg with
   |true=>
    simp only[if_pos (a.2 rfl)];simp only[if_true]at g ⊢;have w:((b.get c).1 - 1)*40+((b.get c).2 - 1)=40*((b.get c).1 - 1)+((b.get c).2 - 1):=O;have x:(((b.get c).1 - 1)*40+((b.get c).2 - 1)).tdiv 40=(b.get c).1 - 1:=by
     grind
    grind
   |false=>
    grind
  grind
theorem jgl(a b:Int):(a<b/\ ¬b<a/\ ¬a=b/\ ¬b=a/\a<=b/\ ¬b<=a)\/(a=b)\/(b<a/\ ¬a<b/\ ¬a=b/\ ¬b=a/\b<=a/\ ¬a<=b):=O
theorem jvG(x y:Int):X0 [x,y]=if Mw (LI [x,y]) then none else some (LI [x,y]):=by
 rw[jem];unfold X0;simp only[aL,aO,RO,Pz,aI,aJ,jbh,UC];grind[jgl,UC,Mw,Pz,RO]
theorem jB4(x y z:Int):X0 [x,y,z]=if Mw (LI [x,y,z]) then none else some (LI [x,y,z]):=by
 rw[jem];unfold X0;simp only[aL,aO,RO,Pz,aI,aJ,jbh,UC];have E:=jgl x y;have F:=jgl x z;have G:=jgl y z;rcases E with⟨a,b,e,f,g,h⟩|e1|⟨a,b,e,f,g,h⟩<;>rcases F with⟨i,j,k,l,m,o⟩|e2|⟨i,j,k,l,m,o⟩<;>rcases G with⟨p,q,r,t,v,w⟩|e3|⟨p,q,r,t,v,w⟩<;>
  first|(exfalso;omega)|(subst_vars;simp[*,UC,Mw])
theorem js6: ∀a b:List Int,cmpLL a b<0↔D1 a b<0
 |[],[]=>by simp[cmpLL,D1]
 |[],b::y=>by grind[cmpLL,D1]
 |a::x,[]=>by grind[cmpLL,D1]
 |a::x,b::y=>by
  have:=js6 x y;grind[cmpLL,D1,Nk]
theorem jmE(a b:Grd):TX a b<0↔cmpG a b<0:=by
 have e:cmpG a b=It [Nk a.kind b.kind,D1 a.args b.args]:=rfl;rw[e];unfold TX It It It Nk;by_cases h:a.kind=b.kind
 ·rw[if_neg (by simp[h]),js6];omega
 omega
theorem jxo{a b c:Grd}(e:cmpG a b<0)(f:cmpG b c<0):cmpG a c<0:=by
 have t:=isCmp_G'.tr a b c trivial trivial trivial O O;omega
theorem jAy(a b:Grd)(h: ¬cmpG a b<0)(e:a≠b):cmpG b a<0:=by
 have f:=isCmp_G'.anti a b trivial trivial;have:cmpG a b≠0:=λh=>e (cmpG_zero.1 h);omega
def UG(l:List Grd):Prop:=l.Pairwise λa b=>cmpG a b<0
theorem jb4(f:Grd): ∀(l:List Grd) (x:Grd),x∈Ka l f↔x=f\/x∈l
 |[],x=>by simp[Ka]
 |a::l,x=>by
  have b:=jb4 f l x;unfold Ka;split
  ·grind
  ·split
   ·rename_i h;have e:=cmpGd_zero.1 h;grind
   ·simp
theorem jtc(f:Grd): ∀{l:List Grd},UG l->UG (Ka l f)
 |[],_=>by simp[Ka,UG]
 |a::l,b=>by
  unfold UG at b;rw[aD]at b;unfold Ka;split
  ·rename_i h;rw[jmE]at h;refine aD.2 ⟨λx hx=> ?_,jtc f b.2⟩;rcases (jb4 f l x).1 hx with rfl|hx
   ·exact h
   ·exact b.1 x hx
  ·split
   ·exact aD.2 b
   ·rename_i h i;rw[jmE]at h;have g:=jAy a f h λe=>i (cmpGd_zero.2 e);refine aD.2 ⟨λx hx=> ?_,(by simp_all)⟩;rcases jzn.1 hx with rfl|hx
    ·exact g
    grind[jxo]
theorem jnZ: ∀(m l:List Grd) (x:Grd),x∈m.foldl Ka l↔x∈l\/x∈m
 |[],l,x=>O1
 |f::m,l,x=>by
  rw[aP,jnZ m,jb4];grind
theorem jql: ∀(m:List Grd) {l:List Grd},UG l->UG (m.foldl Ka l)
 |[],l,h=>h
 |f::m,l,h=>jql m (jtc f h)
theorem ji1: ∀(l:List Grd) (x:Grd),x∈EM l↔x∈l
 |[],x=>by simp[EM]
 |[a],x=>by simp[EM]
 |a::b::l,x=>by
  have e:=ji1 (b::l) x;grind[EM]
theorem jq9: ∀(l:List Grd),l.Pairwise (λa b=>cmpG a b<=0)->UG (EM l)
 |[],_=>by simp[EM,UG]
 |[a],_=>by simp[EM,UG]
 |a::b::l,h=>by
  rw[aD]at h;have g:=jq9 (b::l) h.2;rw[EM];split
  ·exact g
  ·rename_i e;refine aD.2 ⟨λx hx=> ?_,g⟩;have hx:=(ji1 (b::l) x).1 hx;have j:=h.1 x hx;have k:=h.1 b O1;have f:cmpG a b<0:=by
    have:cmpG a b≠0:=λh=>e (cmpG_zero.1 h);omega
   rcases jzn.1 hx with rfl|hx
   ·exact f
   ·have i:=(aD.1 h.2).1 x hx;have t:=isCmp_G'.tr a b x trivial trivial trivial O i;omega
theorem jxn{l m:List Grd}(e:UG l)(g:UG m)(h: ∀x,x∈l↔x∈m):l=m:=by
 have p: ∀{l:List Grd},UG l->l.Nodup:=λ{l} e=>by
  refine List.Pairwise.imp (λ{a b} h f=> ?_) e;subst f;have:cmpG a a=0:=cmpG_zero.2 rfl;omega
 refine List.Perm.eq_of_pairwise (le:=λa b=>cmpG a b<0) (λa b k o i j=> ?_) e g O3;have:=isCmp_G'.anti a b trivial trivial;omega
theorem jhK(l:List Grd):Nw l=l.foldl Ka []:=by
 refine jxn (jq9 _ (jfX isCmp_G' λx _=>trivial)) (jql l .nil) λx=> ?_;grind[Nw,ji1,sortG_mem,jnZ]
theorem jtg{sg:Bool}{b:Bnd}{n:Nmz}(g:Uc sg b n): ∀(a:List Pat) (out:List Grd),(∀p∈a,(∀c∈p.letters,FD sg c/\KD sg (b.get c))/\((Jg b p.letters).length=2\/(Jg b p.letters).length=3))->
  P3 (a.map (Lr sg)) n out=if a.any (λp=>Mw (H9 b p)) then ([],false) else ((a.map (Zl b)).foldl Ka out,true)
 |[],out,_=>rfl
 |p::a,out,h=>by
  obtain⟨k,h2⟩:=h p O1;have l:=λout=>jtg g a out O3;have i:=(jhV g p k).1;have j:X0 (Jg b p.letters)=if Mw (H9 b p) then none else some (H9 b p):=by
   unfold H9;rcases h2 with h2|h2
   ·obtain⟨x,y,e⟩: ∃x y,Jg b p.letters=[x,y]:=by
     match Jg b p.letters,h2 with
     |[x,y],_=>simp
    grind[jvG]
   ·obtain⟨x,y,z,e⟩:=RA h2;grind[jB4]
  rw[aR,P3,i,j,List.any_cons];by_cases f:Mw (H9 b p)=true
  ·simp[f]
  ·simp only[Bool.not_eq_true]at f;simp only[f,Bool.false_eq_true,if_false,Bool.false_or,l,aR,aP];rfl
def Rv(sg:Bool)(r:Rul):RRul:=⟨r.name,r.prem.map (Lr sg),r.concl.map (Lr sg),r.guards.map (Lr sg)⟩
def jb8(sg:Bool)(r:Rul)(P:Pat):Bool:=P.letters.all λc=>decide (FD sg c)&&r.prem.any λp=>p.letters.contains c
def jlE(sg:Bool)(P:Pat):Nat:=if sg then 2*P.letters.length else P.letters.length
def WH(sg:Bool)(r:Rul):Bool:=r.prem.all (US sg)&&r.guards.all (jb8 sg r)&&r.concl.all (jb8 sg r)&&r.guards.all (λP=>decide (jlE sg P=2)||decide (jlE sg P=3))&&
 r.concl.all (λP=>decide (jlE sg P=arity P.kind)&&decide (arity P.kind≠0)&&(decide (P.kind≠9)||decide (P.n=4)))
def jsb(p:RPat)(q:RPat):Bool:=decide (p.kind=q.kind)&&decide (p.letters=q.letters)&&decide (p.seg=q.seg)&&decide (p.num=q.num)
def Yq:List RPat->List RPat->Bool
 |[],[]=>true
 |a::l,b::m=>jsb a b&&Yq l m
 |_,_=>false
theorem jgx: ∀{l m:List RPat},Yq l m=true->l=m
 |[],[],_=>rfl
 |[],_::_,h=>by simp[Yq]at h
 |_::_,[],h=>by simp[Yq]at h
 |a::l,b::m,h=>by
  rw[Yq,AR]at h;rw[jgx h.2];congr 1;have e:=h.1;unfold jsb at e;simp only[AR,decide_eq_true_eq]at e;obtain⟨k,f,s,n⟩:=a;simp_all
def Yr(n:Nat):Bool:=decide (n=1)||decide (n=2)||decide (n=3)||decide (n=15)||decide (n=16)||decide (n=17)||decide (n=19)||decide (n=20)
theorem jtv: ∀n:Fin 29,(n.val=4\/n.val=9)\/(WH (Yr n.val) (DW n.val)=true/\decide ((MW n.val).name=(DW n.val).name)=true/\Yq (MW n.val).frm ((DW n.val).prem.map (Lr (Yr n.val)))=true/\Yq (MW n.val).to ((DW n.val).concl.map (Lr (Yr n.val)))=true/\Yq (MW n.val).guards ((DW n.val).guards.map (Lr (Yr n.val)))=true):=O6
theorem jhj(n:Nat)(g:n≠4)(i:n≠9):WH (Yr n) (DW n)=true/\MW n=Rv (Yr n) (DW n):=by
 by_cases h:n<29
 ·rcases jtv ⟨n,h⟩with f|⟨a,b,c,d,e⟩
  ·grind
  ·refine⟨a,?_⟩;have b:=of_decide_eq_true b;have c:=jgx c;have d:=jgx d;have e:=jgx e;simp only at b c d e;unfold Rv;rw[<-b,<-c,<-d,<-e]
 ·rw[Nh n O,LD n O];exact⟨O5,rfl⟩
theorem jm9{f:Fct}(b:arity f.kind≠0)(e:f.args.length=arity f.kind)(g: ∀a∈f.args,0<=a/\a<40)
  (h:if f.kind=9 then CV f.neg f.abs f.den=true else f.neg=false/\f.abs=[]/\f.den=[]):Eb f=true:=by
 unfold Eb A6;rw[if_neg b,if_neg O,if_neg (by
  grind)]
 by_cases i:f.kind=9
 ·grind
 simp_all[if_neg,DP]
theorem jp9{n:Bool}{m d:Nat}(a:d≠0)(b:Nat.gcd m d=1)(e:n=true->m≠0):CV n (limbs m) (limbs d)=true:=by
 unfold CV;rw[jbu,jbu,Az,Az];simp only[limbs_nil,b,a,decide_true,decide_false,Bool.not_false,Bool.and_true,Bool.true_and,Bool.not_eq_true',Bool.and_eq_false_iff,decide_eq_false_iff_not];grind
theorem jv2{sg:Bool}{r:Rul}{b:Bnd}(h:Uc sg b n)(j:WH sg r=true)(G: ∀p∈r.prem,∀c∈p.letters,KD sg (b.get c)):PA r b=Tm (Rv sg r) n/\ ∀x∈PA r b,Eb x.1=true:=by
 unfold WH at j;simp only[AR]at j;obtain⟨⟨⟨⟨y,m⟩,k⟩,o⟩,q⟩:=j;rw[jzy]at y m k o q;have e: ∀P:Pat,jb8 sg r P=true-> ∀c∈P.letters,FD sg c/\KD sg (b.get c):=λP a c H=>by
  unfold jb8 at a;grind
 have eg:=jtg h r.guards [] λP a=>by
  have l:=e P (m P a);refine⟨l,?_⟩;rw[(jhV h P l).2.2];have:=o P a;simp only[Bool.or_eq_true,decide_eq_true_eq]at this;exact this
 have E: ∀P∈r.concl,UZ n (Lr sg P)=UV b P:=λP a=>by
  unfold UZ UV;rw[(jhV h P (e P (k P a))).1];rfl
 constructor
 ·unfold PA Tm Rv;simp only;rw[eg];unfold ZA guardsL;cases I:r.guards.any λp=>Mw (H9 b p)with
  |true=>simp
  |false=>
   simp_all[Bool.not_false,if_true,Bool.false_eq_true,if_false,aS,List.map_congr_left,Function.comp_apply,jhK]
 ·intro x i;unfold PA at i;split at i
  ·obtain⟨P,a,rfl⟩:=jzk.1 i;have g:=q P a;simp only[AR,Bool.or_eq_true,decide_eq_true_eq]at g;obtain⟨⟨g,w⟩,F⟩:=g;obtain⟨z,t,v⟩:=jhV h P (e P (k P a));refine jm9 (f:=UV b P) w ?_ t ?_
   ·show(Jg b P.letters).length=_;rw[v];exact g
   simp_all[UV,jp9,decide,trivial]
  ·cases i
def Li(r:RRul)(nl:List Fct):Nat->Nat->Nmz->List Fo
 |0,_,n=>Tm r n
 |k+1,i,n=>match r.frm[i]?,nl[i]? with
  |some q,some f=>(R6 q f).flatMap λv=>if (H3 q.letters v n).2 then Li r nl k (i+1) (H3 q.letters v n).1 else []
  |_,_=>[]
theorem jrU{sg:Bool}{r:Rul}(J:r.Good)(G:WH sg r=true){nl:List Fct}(I: ∀f∈nl,f.Rt)(g:nl.length=r.prem.length): ∀(k i:Nat) (b:Bnd) (n:Nmz),i+k=nl.length->Uc sg b n->
  (∀j p,j<i->r.prem[j]? =some p-> ∀c∈p.letters,KD sg (b.get c))->(∀x,x∈Uw (PA r) (PC r nl) k i b↔x∈Li (Rv sg r) nl k i n)/\ ∀x∈Uw (PA r) (PC r nl) k i b,Eb x.1=true
 |0,i,b,n,hi,h,o=>by
  have q: ∀p∈r.prem,∀c∈p.letters,KD sg (b.get c):=λp z=>by
   obtain⟨j,H,e⟩:=aG.1 z;exact o j p O (by rw[AD H,e])
  obtain⟨F,L⟩:=jv2 h G q;refine⟨λx=> ?_,L⟩;show x∈PA r b↔x∈Tm (Rv sg r) n;rw[F]
 |k+1,i,b,n,hi,h,o=>by
  have w:i<nl.length:=O;have y:i<r.prem.length:=O;have N:=I _ (AZ w);have a:=(J.fit _ (AZ y)).1;have S:US sg r.prem[i]=true:=by
   simp_all[WH,AR,AZ]
  obtain⟨W,s2⟩:=jvg a S N h;have M:PC r nl i b=SB r.prem[i] nl[i] b:=by
   grind[PC,List.getElem?_eq_getElem]
  have X:Uw (PA r) (PC r nl) (k+1) i b=(SB r.prem[i] nl[i] b).flatMap (Uw (PA r) (PC r nl) k (i+1)):=by
   show(PC r nl i b).flatMap _=_;rw[M]
  have Y:Li (Rv sg r) nl (k+1) i n=(R6 (Lr sg r.prem[i]) nl[i]).flatMap λv=>if (H3 (Lr sg r.prem[i]).letters v n).2 then Li (Rv sg r) nl k (i+1) (H3 (Lr sg r.prem[i]).letters v n).1 else []:=by
   rw[Li];have F:(Rv sg r).frm[i]? =some (Lr sg r.prem[i]):=by
    unfold Rv;grind
   grind
  have T: ∀c∈SB r.prem[i] nl[i] b,∀j p,j<i+1->r.prem[j]? =some p-> ∀x∈p.letters,KD sg (c.get x):=λc t j p H z x K=>by
   obtain⟨_,q2,q3⟩:=W c t;by_cases e:j=i
   ·grind
   ·have Z:=o j p O z x K;have P:Pq x:=by
     have Q:p∈r.prem:=O3;have E:US sg p=true:=by
      simp_all[WH,AR]
     exact jlC (jf8 E x K)
    grind[jlt]
  have ih:=λc m (t:c∈SB r.prem[i] nl[i] b) (l:Uc sg c m)=>jrU J G I g k (i+1) c m O l (T c t);grind
theorem jrh{sg:Bool}{r:Rul}(g:r.Good)(b:WH sg r=true)(e: ∀f∈nl,f.Rt)(a:nl.length=r.prem.length):
  (∀x,x∈saysP r nl↔x∈Li (Rv sg r) nl nl.length 0 Nmz.zero)/\ ∀x∈saysP r nl,Eb x.1=true:=
 jrU g b e a nl.length 0 Bnd.zero Nmz.zero O (jua sg) O1
theorem jnT: ∀a b:List Grd,a.length=b.length->Yv a b=decide (KY a b<0)
 |[],[],_=>rfl
 |[],_::_,h=>by simp at h
 |_::_,[],h=>by simp at h
 |a::l,b::m,h=>by
  have g:=jnT l m (by simpa using h);rw[Yv,KY];by_cases e:TX a b=0
  ·have f:cmpG a b=0:=cmpG_zero.2 (cmpGd_zero.1 e);grind
  ·have f:cmpG a b≠0:=λh=>e (cmpGd_zero.2 (cmpG_zero.1 h));simp_all[if_neg,if_pos,jmE]
theorem jwf(a b:List Grd):jhA a b=KZ a b:=by
 simp_all[jhA,KZ,if_pos,if_neg,jnT]
def LW(F:Fct)(g:List Grd):List Fnd->List Fnd
 |[]=>[⟨F,g⟩]
 |x::l=>if C2 x.fact F<0 then x::LW F g l else if C2 x.fact F=0 then (if KZ g x.grds then ⟨x.fact,g⟩::l else x::l) else ⟨F,g⟩::x::l
def noteR(nl:List Fct)(l:List Fnd)(f:Fct)(g:List Grd):List Fnd:=if RQ (normF f)=true\/QD (normF f) nl=true then l else LW (normF f) g l
def Dj(nl:List Fct)(l:List Fnd)(Q:List Fo):List Fnd:=Q.foldl (λl x=>noteR nl l x.1 x.2) l
def StrN(l:List Fnd):Prop:=l.Pairwise λa b=>C2 a.fact b.fact<0
theorem jh4{F:Fct}(k:F.Rt)(g:List Grd): ∀{l:List Fnd},(∀x∈l,x.fact.Rt)->StrN l-> ∀x,x∈LW F g l↔(x∈l/\x.fact≠F)\/(x.fact=F/\((∃y∈l,y.fact=F/\x.grds=if KZ g y.grds then g else y.grds)\/((∀y∈l,y.fact≠F)/\x.grds=g)))
 |[],_,_,x=>by
  obtain⟨f,r⟩:=x;simp[LW,Fnd.mk.injEq]
 |y::l,t,p,x=>by
  unfold StrN at p;rw[aD]at p;have v:=t y O1;have m:=λz H=>t z (aH y H);have I:=jh4 k g m p.2 x;have q: ∀{a b:Fct},a.Rt->C2 a b<0->a≠b:=λ{a b} G h e=>by
   subst e;have:=isCmp_F.self G.num;omega
  unfold LW;by_cases w:C2 y.fact F<0
  ·grind
  ·rw[if_neg w];by_cases j:C2 y.fact F=0
   ·rw[if_pos j];have i:y.fact=F:=(WZ v k).1 j;have o: ∀z∈l,z.fact≠F:=O3;have e:(if KZ g y.grds then (⟨y.fact,g⟩:Fnd)::l else y::l)=⟨F,if KZ g y.grds then g else y.grds⟩::l:=by
     split
     ·rw[i]
     ·rw[<-i]
    rw[e,jzn];obtain⟨f,r⟩:=x;grind
   ·rw[if_neg j];have E:C2 F y.fact<0:=by
     have:=isCmp_F.anti y.fact F v.num k.num;omega
    have i:y.fact≠F:=O3;have o: ∀z∈l,z.fact≠F:=O3;obtain⟨f,r⟩:=x;grind
theorem jl2{F:Fct}(f:F.Rt)(g:List Grd): ∀{l:List Fnd},(∀x∈l,x.fact.Rt)->StrN l->StrN (LW F g l)
 |[],_,_=>by simp[LW,StrN]
 |y::l,i,b=>by
  have o:=jh4 f g (λz j=>i z (aH y j)) (aD.1 b).2;unfold StrN at b;have e:=aD.1 b;have p:=i y O1;have a:=λz j=>i z (aH y j);unfold LW;by_cases m:C2 y.fact F<0
  ·rw[if_pos m];refine aD.2 ⟨λx hx=> ?_,jl2 f g a e.2⟩;grind
  ·rw[if_neg m];by_cases k:C2 y.fact F=0
   ·rw[if_pos k];split
    ·exact aD.2 O
    ·exact b
   ·rw[if_neg k];have h:C2 F y.fact<0:=by
     have:=isCmp_F.anti y.fact F p.num f.num;omega
    refine aD.2 ⟨λx hx=> ?_,b⟩;rcases jzn.1 hx with rfl|hx
    ·exact h
    ·have q:=e.1 x hx;have t:=isCmp_F.tr F y.fact x.fact f.num p.num (a x hx).num O O;grind
theorem StrN.nd(g: ∀x∈l,x.fact.Rt)(h:StrN l):l.Pairwise λx y=>x.fact≠y.fact:=by
 refine List.Pairwise.imp_of_mem (λ{a b} i e h f=> ?_) h;rw[f]at h;have:=isCmp_F.self (g b e).num;omega
theorem juu{F:Fct}(f:F.Rt)(j:g.length<=10/\ ∀x∈g,x.Short)(b:FndOk l)(k:StrN l):FndOk (LW F g l):=by
 have a:=jh4 f g b.rt k;have m: ∀x∈LW F g l,x.fact.Rt:=λx i=>by
  rcases (a x).1 i with⟨h,_⟩|⟨h,_⟩
  ·exact b.rt x h
  ·rw[h];exact f
 refine⟨m,λx i=> ?_,(jl2 f g b.rt k).nd m⟩;rcases (a x).1 i with⟨h,_⟩|⟨_,⟨y,o,_,e⟩|⟨_,e⟩⟩
 ·exact b.sh x h
 ·rw[e];split
  ·exact j
  ·exact b.sh y o
 ·rw[e];exact j
theorem jBv{P:List Fo}(w:FndOk l)(E:StrN l)(h:Least nl P l)(x:Fo)(v:(normF x.1).Rt):Least nl (P++[x]) (noteR nl l x.1 x.2):=by
 have q: ∀{f g},Rh nl P f g->Rh nl (P++[x]) f g:=λ⟨⟨y,hy,e⟩,h⟩=>⟨O3,h⟩
 have k: ∀{f g},Rh nl (P++[x]) f g->Rh nl P f g\/(normF x.1=f/\x.2=g):=λ⟨⟨y,hy,e⟩,h⟩=>by
  rcases List.mem_append.1 hy with hy|hy
  ·exact .inl ⟨⟨y,hy,e⟩,h⟩
  grind
 unfold noteR;by_cases b:RQ (normF x.1)=true\/QD (normF x.1) nl=true
 ·rw[if_pos b];refine⟨λy hy=>q (h.sub y hy),λf g i=> ?_⟩;rcases k i with a|⟨rfl,rfl⟩
  ·exact h.top f g a
  ·exact absurd (.inr b) i.2
 ·rw[if_neg b];have H: ¬((normF x.1).kind=0\/RQ (normF x.1)=true\/QD (normF x.1) nl=true):=by
   rintro (h0|h0)
   ·exact v.parts.1 (by rw[h0];rfl)
   ·exact b h0
  have p:Rh nl (P++[x]) (normF x.1) x.2:=⟨O1,H⟩
  have j:=jh4 v x.2 w.rt E;refine⟨λy hy=> ?_,λf g i=> ?_⟩
  ·rcases (j y).1 hy with⟨r,_⟩|⟨i,⟨z,F,G,e⟩|⟨_,e⟩⟩
   ·exact q (h.sub y r)
   ·rw[i,e];split
    ·exact p
    ·have:=q (h.sub z F);grind
   grind
  ·by_cases o:f=normF x.1
   ·subst o;rcases k i with a|⟨_,rfl⟩
    ·obtain⟨y,hy,e,t⟩:=h.top _ g a;refine⟨⟨normF x.1,if KZ x.2 y.grds then x.2 else y.grds⟩,O3,rfl,?_⟩;simp only;split
     ·rename_i r;rw[Bool.eq_false_iff];grind[jqu]
     ·exact t
    ·by_cases m: ∃y∈l,y.fact=normF x.1
     ·obtain⟨y,hy,e⟩:=m;refine⟨⟨normF x.1,if KZ x.2 y.grds then x.2 else y.grds⟩,O3,rfl,?_⟩;grind[jhX]
     ·exact⟨⟨normF x.1,x.2⟩,O3,rfl,jhX _⟩
   ·rcases k i with a|⟨e,_⟩
    ·obtain⟨y,hy,e,t⟩:=h.top _ g a;grind
    grind
theorem jB2(a:FndOk l)(b:StrN l){f:Fct}(e:(normF f).Rt)(h:g.length<=10/\ ∀x∈g,x.Short):FndOk (noteR nl l f g)/\StrN (noteR nl l f g):=by
 unfold noteR;split
 ·exact⟨a,b⟩
 ·exact⟨juu e h a b,jl2 e g a.rt b⟩
theorem jqB{nl:List Fct}: ∀(Q P:List Fo) (l:List Fnd),FndOk l->StrN l->Least nl P l->(∀x∈Q,(normF x.1).Rt/\x.2.length<=10/\ ∀g∈x.2,g.Short)->FndOk (Dj nl l Q)/\StrN (Dj nl l Q)/\Least nl (P++Q) (Dj nl l Q)
 |[],P,l,a,b,h,_=>by rw[List.append_nil];exact⟨a,b,h⟩
 |x::Q,P,l,a,b,h,f=>by
  have e:=f x O1;obtain⟨j,k⟩:=jB2 (nl:=nl) a b e.1 e.2;have:=jqB Q (P++[x]) (noteR nl l x.1 x.2) j k (jBv a b h x e.1) λy i=>f y (by simp[i]);rw[List.append_assoc]at this;exact this
theorem jjB{P Q:List Fo}(o: ∀x∈P,Xn x)(t: ∀x∈Q,(normF x.1).Rt/\x.2.length<=10/\ ∀g∈x.2,g.Short)
  (h: ∀f g,(∃x∈P,normF x.1=f/\x.2=g)↔ ∃x∈Q,normF x.1=f/\x.2=g):Q0 UD (runF nl [] P)=Dj nl [] Q:=by
 have w:Least nl [] ([]:List Fnd):=⟨O1,λf g h=>by obtain⟨⟨x,k,_⟩,_⟩:=h;cases k⟩
 obtain⟨l,E,p⟩:=jqB (nl:=nl) Q [] [] .nil .nil w t;rw[List.nil_append]at p;rw[jA5 (ZM P [] .nil o) l (jo7 o) p λf g=>⟨λ⟨a,b⟩=>⟨(h f g).1 a,b⟩,λ⟨a,b⟩=>⟨(h f g).2 a,b⟩⟩];have r:IsCmp (λx=>x∈Dj nl [] Q) UD:=⟨λx y k m=>isCmp_F.rng _ _ (l.rt x k).num (l.rt y m).num,λx y k m=>isCmp_F.anti _ _ (l.rt x k).num (l.rt y m).num,λx y z k m v=>isCmp_F.tr _ _ _ (l.rt x k).num (l.rt y m).num (l.rt z v).num⟩
 refine(ji6 r (λx y k m q=> ?_) (λx k=>k) (List.Perm.refl _) ?_).symm
 ·have e:x.fact=y.fact:=(WZ (l.rt x k) (l.rt y m)).1 q;obtain⟨i,hi,rfl⟩:=aG.1 k;obtain⟨j,F,rfl⟩:=aG.1 m;have G:=List.pairwise_iff_getElem.1 l.nd;grind
 ·exact List.Pairwise.imp (λ{a b} h=>by show C2 a.fact b.fact<=0;omega) E
end Go.Va
namespace Go.Va
open Int renaming natCast_add → qA, natCast_mul → qB
open Go.Proofs Go.Proofs.Tryz
def jji:List (List Nat):=(Ah [0,1,3,7,7,23,63,127,7,7,775,1799,4095,8191])
@[simp]def jmg:List Seg:=[.one,.one,.one,.any [] [] (Aq [[3,16],[5,16],[18,16],[17,19,16],[20,16],[0,16],[4,16],[22,23,16],[24,16]]),.one,.one]
def jtq:List (List Nat):=(Ah [0,0,0,6,15,0,0,96,224,480,1023,0,0,6144,16383,32767])
@[simp]def jsu:List Seg:=[.any [] [30,34,39,40] [⟨1,[],[39],[34,39,40],[]⟩,⟨0,[3],[30,39],[30,34,39,40],[]⟩,⟨0,[5],[30,39],[30,34,39,40],[]⟩,⟨0,[31,32],[30,39],[30,34,39,40],[]⟩,⟨3,[30,33],[39],[39,40],[30]⟩,⟨0,[0],[30,34],[30,34,39,40],[]⟩,⟨0,[4],[30,34],[30,34,39,40],[]⟩,⟨0,[35,36],[30,34],[30,34,39,40],[]⟩,⟨0,[37],[30,34],[30,34,39,40],[]⟩,⟨1,[38],[30,34],[30,34,40],[]⟩,⟨3,[34,39],[],[],[34]⟩,⟨0,[3],[30,34,39,40],[30,34,39,40],[]⟩,⟨0,[5],[30,34,39,40],[30,34,39,40],[]⟩,⟨0,[41,42],[30,34,39,40],[30,34,39,40],[]⟩],.one,.one]
def jqD:List (List Nat):=(Ah [0,0,3,7,15,15,0,95,255])
@[simp]def jp2:List Seg:=[.any [] [5] [⟨0,[],[5],[5],[]⟩,⟨0,[2],[5],[5],[]⟩,⟨0,[16,17],[5],[5],[]⟩,⟨0,[18],[5],[5],[]⟩,⟨0,[15],[5],[5],[]⟩,⟨0,[15],[5],[5],[]⟩,⟨1,[],[],[],[]⟩,⟨2,[5,19],[],[],[5]⟩],.one]
@[simp]theorem jCt:(D.slice 0 []=AT [])=True:=eq_true rfl
@[simp]theorem nil_natD:(D.slice 0 []=Ad [])=True:=eq_true rfl
theorem jnr{o:List Int}{x:Int}{p:Nat}(k:o.Pairwise (· <= ·))(h: ∀j (f:j<o.length),j<p->o[j]<=x)(g: ∀j (f:j<o.length),p<=j->x<o[j]):(o.take p++x::o.drop p).Pairwise (· <= ·):=by
 have l: ∀a∈o.take p,a<=x:=λa e=>by
  obtain⟨j,f,rfl⟩:=List.mem_iff_getElem.1 e;rw[A8]at f;rw[List.getElem_take];exact h j O O
 have i: ∀a∈o.drop p,x<a:=λa e=>by
  obtain⟨j,f,rfl⟩:=List.mem_iff_getElem.1 e;rw[List.length_drop]at f;rw[List.getElem_drop];exact g _ O O
 rw[List.pairwise_append,List.pairwise_cons];refine⟨k.sublist (List.take_sublist _ _),⟨λb hb=>Int.le_of_lt (i b hb),k.sublist (List.drop_sublist _ _)⟩,λa e b hb=> ?_⟩;rcases jzn.1 hb with rfl|hb
 ·exact l a e
 ·have:=l a e;have:=i b hb;omega
theorem jsh{o l:List Int}{i p:Nat}(h:i<l.length)(a:o.Perm (l.take i)):(o.take p++l[i]::o.drop p).Perm (l.take (i+1)):=by
 rw[Cr h];refine List.perm_middle.trans ?_;rw[List.take_append_drop];exact(a.cons _).trans (List.perm_append_comm (l₁:=[l[i]])).symm.symm
theorem jtk(l:List Int)(K:l.length<=1099511627776):CallsF prog 69 [.c (AT l)] (.u (.c (.d (AT (LI l))))):=by
 refine oA func69 ?_;refine CE [(3,44)] (λx:Nat×Nat×List D=>⟨[(4,vI .i64 x.1),(3,vC (.sl 3 0 x.2.1)),(0,vC (.d (AT l)))],[(3,.row 1 x.2.2 true)]⟩)
  (λx=> ∃o:List Int,x.2.1=o.length/\x.2.2=o.map i64/\x.1<=l.length/\o.Perm (l.take x.1)/\o.Pairwise (· <= ·)) (λx=>l.length - x.1) (0,0,[]) O1 ⟨[],O1⟩ ?_
 rintro⟨i,n,H⟩ ⟨o,F,E,z,f,g⟩;simp only at F E z f g;subst F E;have m:=f.length_eq;rw[A8,Bs z]at m;by_cases h:i<l.length
 ·refine rA1 h ?_;refine AV (λk:Nat=>⟨[(5,vI .i64 k),(4,vI .i64 i),(3,vC (.sl 3 0 o.length)),(0,vC (.d (AT l)))],[(3,.row 1 (o.map i64) true)]⟩)
   (λk=>k<=o.length/\ ∀j (a:j<o.length),k<=j->l[i]<o[j]) (λk=>k) o.length O1 ⟨AO _,λj a q=>O⟩ ?_
  rintro k ⟨y,r⟩;cases k with
  |zero=>
   refine rA ?_;refine AA jji jmg O5 ?_;refine rA ?_;refine AA jtq jsu O5 ?_;simp -implicitDefEqProofs[jJ,-qA,-qB,h,i64];refine⟨O,O,i+1,1+o.length,_,⟨⟨rfl,rfl⟩,rfl⟩,⟨l[i]::o,by simp;omega,rfl,O,?_,?_⟩,O⟩
   ·have:=jsh (p:=0) h f;simpa using this
   ·have:=jnr (x:=l[i]) (p:=0) g (λj a w=>O) (λj a t=>r j a t);simpa using this
  |succ k=>
   have q:k<o.length:=O;have I:k<=9223372036854775806:=O;by_cases b:l[i]<o[k]
   ·refine rA ?_;refine AA jji jmg O5 ?_;refine rD3 h q b ?_;refine⟨O,O,λj a G=> ?_⟩;by_cases e:j=k
    ·subst e;exact b
    ·exact r j a O
   ·refine rA ?_;refine AA jji jmg O5 ?_;refine rD3 h q b ?_;refine⟨O,?_⟩;refine AA jtq jsu O5 ?_;simp -implicitDefEqProofs[jJ,-qA,-qB,h,i64];have J:(o.drop (k+1)).length=o.length - (k+1):=List.length_drop;have v: ∀j (a:j<o.length),j<k+1->o[j]<=l[i]:=λj a w=>by
     by_cases e:j=k
     ·subst e;omega
     ·have:=List.pairwise_iff_getElem.1 g j k a q O;omega
    refine⟨y,O,O,O,y,O,O,O,O,i+1,k+1+1+(o.length - (k+1)),_,⟨⟨rfl,rfl⟩,rfl⟩,⟨o.take (k+1)++l[i]::o.drop (k+1),?_,?_,O,jsh h f,jnr g v r⟩,O⟩
    ·simp;omega
    ·rw[List.map_append,List.map_cons,List.map_take,List.map_drop,Ba (i:=o.length - (k+1)) O1];rfl
 ·have hi:i=l.length:=O;subst hi;rw[BM]at f;have e:=jmG f g;refine rA ?_;rw[e]
theorem jvh{l:List (Int×Int)}{i:Nat}(h:i<l.length):(Tw (l.take (i+1))).map i64=(Tw (l.take i)).map i64++[.int .i64 l[i].1,.int .i64 l[i].2]:=by
 rw[Cr h];unfold Tw;rw[List.flatMap_append,List.map_append];rfl
theorem jrv(l:List (Int×Int))(m:l.length<=1099511627776):CallsF prog 136 [.c (Ta l)] (.u (.c (.d (AT (Tw l))))):=by
 refine oA func136 ?_;refine CE [(3,23)] (λx:Nat×Nat×List D=>⟨[(4,vI .i64 x.1),(3,vC (.sl 3 0 x.2.1)),(0,vC (.d (Ta l)))],[(3,.row 1 x.2.2 true)]⟩)
  (λx=>x.1<=l.length/\x.2.1=x.1*2/\x.2.2=(Tw (l.take x.1)).map i64) (λx=>l.length - x.1) (0,0,[]) O1 (by simp[Tw]) ?_
 rintro⟨i,n,k⟩ ⟨b,f,g⟩;simp only at b f g;subst f g;have a:=jjo (l.take i);rw[A8,Bs b]at a;by_cases h:i<l.length
 ·have e:=jvh h;have j:=jpc h;refine rA1 h ?_;refine AA (Ah [0,0,0,6,14,30,0,0,192,448,960,2046,4095,8191]) [.any [] [22] ([⟨0,[3],[22],[22],[]⟩]++AG [22] [[0],[4],[12,13],[14],[15],[0],[4],[17,18],[19],[20]]++[⟨1,[16,21],[],[],[]⟩]),.one,.one] O5 ?_;simp -implicitDefEqProofs[jJ,-qA,-qB,h,j,a];exact⟨⟨O,O⟩,O,i+1,i*2+2,_,⟨⟨rfl,rfl⟩,rfl⟩,⟨O,O,by rw[e]⟩,O⟩
 ·have hi:i=l.length:=O;subst hi;rw[BM]at a ⊢;refine rA ?_;rw[<-a,Ba O1];exact⟨O1,by show D.slice _ _=D.slice _ _;simp⟩
theorem jax(a b c d:Int):CallsF prog 136 [.c (.slice 2 [.int .i64 a,.int .i64 b,.int .i64 c,.int .i64 d])] (.u (.c (.d (AT [a,b,c,d])))):=jrv [(a,b),(c,d)] O1
theorem Zh(a b c d e f g h:Int):CallsF prog 136 [.c (.slice 4 [.int .i64 a,.int .i64 b,.int .i64 c,.int .i64 d,.int .i64 e,.int .i64 f,.int .i64 g,.int .i64 h])] (.u (.c (.d (AT [a,b,c,d,e,f,g,h])))):=jrv [(a,b),(c,d),(e,f),(g,h)] O1
theorem jyj(a b c d:Int):Dg (a,b) (c,d)<0↔a<c\/(a=c/\b<d):=by
 unfold Dg It It It;simp only;rcases S3 a c with⟨h,e⟩|⟨h,e⟩|⟨h,e⟩<;>rcases S3 b d with⟨g,f⟩|⟨g,f⟩|⟨g,f⟩<;>rw[e,f]<;>simp<;>omega
theorem jA9(p q:Int×Int):Dg p q=0↔p=q:=by
 obtain⟨a,b⟩:=p;obtain⟨c,d⟩:=q;unfold Dg It It It;simp only[Prod.mk.injEq];rcases S3 a c with⟨h,e⟩|⟨h,e⟩|⟨h,e⟩<;>rcases S3 b d with⟨g,f⟩|⟨g,f⟩|⟨g,f⟩<;>rw[e,f]<;>simp<;>omega
theorem jdB(p q r s:Int×Int):It [Dg p q,Dg r s]<0↔Dg p q<0\/(p=q/\Dg r s<0):=by
 have:=jA9 p q;unfold It It It;by_cases h:Dg p q=0
 ·rw[if_pos h];have e:=this.1 h;by_cases a:Dg r s=0
  ·rw[if_pos a,a,h];simp
  ·rw[if_neg a,h];simp[e]
 ·rw[if_neg h];have e: ¬p=q:=λe=>h (this.2 e);simp[e]
theorem PE(a b c d:Int):CallsF prog 135 [.agg [.int .i64 a,.int .i64 b],.agg [.int .i64 c,.int .i64 d]] (.u (.c (.d (.bool (decide (Dg (a,b) (c,d)<0)))))):=by
 have e:=jyj a b c d;simp only[e];clear e;refine cO func135 rfl ?_;by_cases f:a<c
 ·exact kA1 f
 ·by_cases g:a=c
  ·subst g;exact kA
  ·exact kA2 f g
def jfq(p q:Int×Int):Int×Bool:=if p.1=q.1\/p.1=q.2 then (p.1,true) else if p.2=q.1\/p.2=q.2 then (p.2,true) else (0,false)
theorem jyL(a b c d:Int):CallsF prog 137 [.agg [.int .i64 a,.int .i64 b],.agg [.int .i64 c,.int .i64 d]] (.tup [.c (.d (.int .i64 (jfq (a,b) (c,d)).1)),.c (.d (.bool (jfq (a,b) (c,d)).2))]):=by
 unfold jfq;refine cO func137 rfl ?_;by_cases e:a=c
 ·exact kA1 e
 ·by_cases f:a=d
  ·exact kA1 f
  ·by_cases g:b=c
   ·simp -implicitDefEqProofs[jJ,-qA,-qB,e,f,g]
   ·by_cases h:b=d
    ·simp -implicitDefEqProofs[jJ,-qA,-qB,e,f,h]
    ·simp -implicitDefEqProofs[jJ,-qA,-qB,e,f,g,h]
theorem jyQ(neg:Bool)(m e:Nat)(q:m<340282366920938463463374607431768211456)(p:e<340282366920938463463374607431768211456)(j:e≠0)(g:Nat.gcd m e=1)(a:Bool):
  CallsF prog 139 [.agg [.bool neg,Ad (limbs m),Ad (limbs e)],.c (.bool a)]
   (if a=true/\m≠0/\Nk (LG neg e*e) (LG neg m*m)<0 then .u (.agg [.d (.bool neg),.d (Ad (limbs e)),.d (Ad (limbs m))]) else .u (.agg [.d (.bool neg),.d (Ad (limbs m)),.d (Ad (limbs e))])):=by
 have k:=jjc neg m e O O j g;have o:=jcg 1 O;have l:=jgj neg m e O O j g;have i:=λb=>jm7 neg neg e m m e O O b (by rw[Nat.gcd_comm];exact g) O O j g;cases a
 ·rw[if_neg O1];refine cO func139 rfl ?_;exact kA
 ·by_cases b:m=0
  ·rw[if_neg (by simp[b])];refine oA func139 ?_;refine Ac k ?_;simp -implicitDefEqProofs[jJ,-qA,-qB,Zd,b]
  ·rw[if_neg b]at l;have i:=i b;by_cases f:Nk (LG neg e*e) (LG neg m*m)<0
   ·rw[if_pos ⟨rfl,b,f⟩];refine oA func139 ?_;refine Ac k ?_;simp -implicitDefEqProofs[jJ,-qA,-qB,Zd,b];refine AA jqD jp2 O5 ?_;refine rA ?_;refine aA o ?_;refine aA l ?_;refine Ac i ?_;exact kA1 f
   ·rw[if_neg (λh=>f h.2.2)];refine oA func139 ?_;refine Ac k ?_;simp -implicitDefEqProofs[jJ,-qA,-qB,Zd,b];refine AA jqD jp2 O5 ?_;refine rA ?_;refine aA o ?_;refine aA l ?_;refine Ac i ?_;exact kA1 f
end Go.Va
