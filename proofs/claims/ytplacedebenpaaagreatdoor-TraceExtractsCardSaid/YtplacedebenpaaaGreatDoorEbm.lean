/- a part of the proof -/
import Derived.Test.YtplacedebenpaaaGreatDoorEbi
import Derived.Test.YtplacedebenpaaaGreatDoorEbj
import Derived.Test.YtplacedebenpaaaGreatDoorEbl
set_option linter.all false
set_option maxHeartbeats 4000000
set_option maxRecDepth 100000
namespace Go.Va
open _root_.List renaming map_flatMap → aD, map_cons → aH, map_nil → aI, drop_zero → aM
open _root_.Nat renaming gcd → aG, gcd_dvd_right → aJ, gcd_dvd_left → aL, le_of_dvd → aN, div_pos → aO
variable{k a c d:Int}{n:Bool}{m e:List Nat}
theorem Md{p:Int×Int}(h:p.1<=p.2):AQ p.1 p.2=p:=by
 obtain⟨a,b⟩:=p;simp only at h;unfold AQ lo hi;grind
theorem jdz(l:List Int):LI (LI l)=LI l:=by
 grind[LI,jem,jg9,ju2]
theorem jhm{b:Int}(f:k=3\/k=4):normG ⟨k,[a,b,c,d],n,m,e⟩=MK k (AQ a b) (AQ c d):=by
 unfold normG;grind
theorem jjN{b:Int}:normG ⟨2,[a,b,c,d],n,m,e⟩=TZ (AQ a b) (AQ c d):=by
 unfold normG;simp
theorem je3{b:Int}:normG ⟨9,[a,b,c,d],n,m,e⟩=O7 n (val m) (val e) (AQ a b) (AQ c d):=by
 unfold normG;simp
theorem jmc{b e f g h:Int}{o:List Nat}:normG ⟨7,[a,b,c,d,e,f,g,h],n,m,o⟩=M8 (AQ a b) (AQ c d) (AQ e f) (AQ g h):=by
 unfold normG;simp
theorem Yh{l:List Int}(a:k=1\/k=6\/k=8):normG ⟨k,l,n,m,e⟩=⟨k,LI l,false,[],[]⟩:=by
 unfold normG;grind
theorem jcO{p q:Int×Int}(h:Dg q p<0): ¬Dg p q<0:=by
 grind[jkx]
theorem jly(a:k=3\/k=4){p q:Int×Int}(b:p.1<=p.2)(e:q.1<=q.2):normG (MK k p q)=MK k p q:=by
 unfold MK;split
 ·simp_all[jhm,Md,MK,if_neg,jcO]
 simp_all[jhm,Md,MK,if_neg]
theorem jxa{p q:Int×Int}(a:p.1<=p.2)(b:q.1<=q.2):normG (TZ p q)=TZ p q:=by
 unfold TZ;split
 ·rw[Yh (.inl rfl),jdz]
 ·rename_i e;split
  ·rw[Yh (.inl rfl),jdz]
  ·rename_i f;unfold MK;split
   ·rename_i h;rw[jjN,Md a,Md b];unfold TZ;rw[if_neg O,if_neg O];simp_all[MK,if_neg,jcO]
   simp_all[jjN,Md,TZ,if_neg,MK]
theorem jyK{neg:Bool}{m e:Nat}(k:e≠0){p q:Int×Int}(g:p.1<=p.2)(i:q.1<=q.2):normG (O7 neg m e p q)=O7 neg m e p q:=by
 have back:m≠0-> ¬LG neg m=e-> ¬LG neg e=m:=(by grind[LG])
 by_cases f:LG neg m=e
 ·have a:O7 neg m e p q=MK 4 p q:=by unfold O7;rw[if_pos f]
  rw[a];exact jly (.inr rfl) g i
 by_cases b:m≠0/\Dg q p<0
 ·have a:O7 neg m e p q=⟨9,[q.1,q.2,p.1,p.2],neg,limbs e,limbs m⟩:=by simp_all[O7,if_neg,if_pos]
  rw[a,je3,Md g,Md i,Az,Az];unfold O7;rw[if_neg (back b.1 f),if_neg λh=>jcO b.2 h.2,if_neg];rintro⟨_,e,_⟩;subst e;exact jcO b.2 b.2
 by_cases j:m≠0/\p=q/\Nk (LG neg e*e) (LG neg m*m)<0
 ·have a:O7 neg m e p q=⟨9,[p.1,p.2,q.1,q.2],neg,limbs e,limbs m⟩:=by simp_all[O7,if_neg,if_pos]
  rw[a,je3,Md g,Md i,Az,Az];unfold O7;rw[if_neg (back j.1 f),if_neg O,if_neg];rintro⟨_,_,h⟩;have l:=j.2.2;have o:=S3 (LG neg e*e) (LG neg m*m);grind[S3,LG]
 ·have a:O7 neg m e p q=⟨9,[p.1,p.2,q.1,q.2],neg,limbs m,limbs e⟩:=by simp_all[O7,if_neg]
  grind[je3,Md,Az]
theorem jsC(p q:Int×Int)(f:p.1<=p.2)(g:q.1<=q.2):(srt2 p q).1.1<=(srt2 p q).1.2/\(srt2 p q).2.1<=(srt2 p q).2.2/\srt2 (srt2 p q).1 (srt2 p q).2=srt2 p q:=by
 have e: ∀a b:Int×Int,¬Dg b a<0->srt2 a b=(a,b):=(by simp_all[srt2,if_neg])
 by_cases h:Dg q p<0
 ·simp_all[srt2,if_pos,jcO]
 grind
theorem jvo{u v w z:Int×Int}(m:u.1<=u.2)(o:v.1<=v.2)(p:w.1<=w.2)(q:z.1<=z.2):normG (M8 u v w z)=M8 u v w z:=by
 obtain⟨f,g,i⟩:=jsC v w o p;obtain⟨j,k,l⟩:=jsC u z m q;unfold M8;generalize srt2 v w=A at*;generalize srt2 u z=B at*;obtain⟨a,A2⟩:=A;obtain⟨b,e⟩:=B;simp only at*;by_cases h:It [Dg a b,Dg A2 e]<0
 ·rw[if_pos h,jmc,Md f,Md g,Md j,Md k];unfold M8;rw[i,l];simp only;rw[if_neg];rw[jdB,jkx,jkx]at h ⊢;grind
 simp_all[if_neg,jmc,Md,M8]
theorem jyu{f:Fct}(h:f.Rt):normF (normF f)=normF f:=by
 have i:=Ys h;have o:normF f=normG f:=by unfold normF;rw[if_pos h.ok]
 have p:normF (normG f)=normG (normG f):=by unfold normF;rw[if_pos i.ok]
 rw[o,p];clear o p i;obtain⟨q,g,t,j⟩:=h.parts;have r:=h.mild;obtain⟨k,l,n,m,d⟩:=f;simp only at q g t j;rcases jmv q with rfl|rfl|rfl|rfl|rfl|rfl|rfl|rfl|rfl
 ·rw[Yh (.inl rfl),Yh (.inl rfl),jdz]
 ·obtain⟨a,b,c,e,rfl⟩:=KQ (by simpa [arity]using g);grind[jjN,jxa,Uf]
 ·obtain⟨a,b,c,e,rfl⟩:=KQ (by simpa [arity]using g);rw[jhm (.inl rfl)];exact jly (.inl rfl) (Uf _ _) (Uf _ _)
 ·obtain⟨a,b,c,e,rfl⟩:=KQ (by simpa [arity]using g);rw[jhm (.inr rfl)];exact jly (.inr rfl) (Uf _ _) (Uf _ _)
 ·obtain⟨a,b,c,rfl⟩:=RA (by simpa [arity]using g);grind[normG,lo,hi,Md,Uf,AQ,Prod.mk.injEq]
 ·rw[Yh (.inr (.inl rfl)),Yh (.inr (.inl rfl)),jdz]
 ·obtain⟨a,b,c,e,v,w,x,y,rfl⟩:=VH (by simpa [arity]using g);grind[jmc,jvo,Uf]
 ·rw[Yh (.inr (.inr rfl)),Yh (.inr (.inr rfl)),jdz]
 ·obtain⟨a,b,c,e,rfl⟩:=KQ (by simpa [arity]using g);rw[je3];rw[if_pos rfl]at j;exact jyK (Cz j r.oa r.od).2.2.1 (Uf _ _) (Uf _ _)
def Wn(f g:Fct):Fct:=
 let m:=val f.abs*val g.abs;let d:=val f.den*val g.den;let s:=atomN (f.args.getD 0 0) (f.args.getD 1 0);let u:=atomN (g.args.getD 2 0) (g.args.getD 3 0)
 ⟨9,[s/40,s%40,u/40,u%40],sg (!decide (f.neg=g.neg)) m,limbs (m/aG m d),limbs (d/aG m d)⟩
def Xz(f g:Fct):Bool:=decide (atomN (f.args.getD 2 0) (f.args.getD 3 0)=atomN (g.args.getD 0 0) (g.args.getD 1 0))
def XD(p q:Fct):List Fct:=(rdR p).flatMap λa=>(rdR q).flatMap λb=>if Xz a b then [Wn a b] else []
theorem jbZ{p:Fct}(a:p.Rt): ∀g∈rdR p,∀i,0<=g.args.getD i 0/\g.args.getD i 0<40:=by
 have e:=jhE a;have b: ∀i,0<=[p.args.getD 2 0,p.args.getD 3 0,p.args.getD 0 0,p.args.getD 1 0].getD i 0/\[p.args.getD 2 0,p.args.getD 3 0,p.args.getD 0 0,p.args.getD 1 0].getD i 0<40:=O3;intro g h;unfold rdR at h;grind
theorem jvM{b:Int}(e:0<=a/\a<40)(f:0<=b/\b<40)(g:0<=c/\c<40)(h:0<=d/\d<40):atomN a b=atomN c d↔AQ a b=AQ c d:=by
 obtain⟨⟨i,j⟩,k,l⟩:=VF e f;obtain⟨⟨m,o⟩,p,q⟩:=VF g h;grind[Wi,Prod.ext_iff]
theorem jtT(a b c d:Int)(f:k=2\/k=3\/k=4\/k=9):normF ⟨k,[b,a,c,d],n,m,e⟩=normF ⟨k,[a,b,c,d],n,m,e⟩:=
 (by grind[jsQ,jpZ])
theorem jux(a b c d:Int)(f:k=2\/k=3\/k=4\/k=9):normF ⟨k,[(AQ a b).1,(AQ a b).2,(AQ c d).1,(AQ c d).2],n,m,e⟩=normF ⟨k,[a,b,c,d],n,m,e⟩:=by
 grind[jmF,jpZ,jtT,jsQ]
theorem jqb{f g:Fct}(a: ∀i,0<=f.args.getD i 0/\f.args.getD i 0<40)(b: ∀i,0<=g.args.getD i 0/\g.args.getD i 0<40):normF (Wn f g)=normF (UQ f g):=by
 obtain⟨⟨e,h⟩,j,k⟩:=VF (a 0) (a 1);obtain⟨⟨l,m⟩,o,p⟩:=VF (b 2) (b 3);unfold Wn UQ;simp only[Wi];have q:((AQ (f.args.getD 0 0) (f.args.getD 1 0)).1*40+(AQ (f.args.getD 0 0) (f.args.getD 1 0)).2)/40=(AQ (f.args.getD 0 0) (f.args.getD 1 0)).1:=O;have r:((AQ (f.args.getD 0 0) (f.args.getD 1 0)).1*40+(AQ (f.args.getD 0 0) (f.args.getD 1 0)).2)%40=(AQ (f.args.getD 0 0) (f.args.getD 1 0)).2:=O;have t:((AQ (g.args.getD 2 0) (g.args.getD 3 0)).1*40+(AQ (g.args.getD 2 0) (g.args.getD 3 0)).2)/40=(AQ (g.args.getD 2 0) (g.args.getD 3 0)).1:=O;grind[AQ,jux]
theorem jx6{p q:Fct}(k:p.Rt)(m:q.Rt):(XD p q).map normF=(UJ (rdR p) (rdR q) 0).map normF:=by
 unfold XD UJ Wz;simp only[aM];have j: ∀(A B:List Fct),(∀g∈A,∀i,0<=g.args.getD i 0/\g.args.getD i 0<40)->(∀g∈B,∀i,0<=g.args.getD i 0/\g.args.getD i 0<40)->
   (A.flatMap λa=>B.flatMap λb=>if Xz a b then [Wn a b] else []).map normF=(A.flatMap λf=>B.flatMap λg=>if WQ f g then [UQ f g] else []).map normF:=by
  intro A B o r;rw[aD,aD];have ext: ∀{α β:Type} {f g:α->List β} {l:List α},(∀a∈l,f a=g a)->l.flatMap f=l.flatMap g:=by
   intro α β f g l h
   induction l with
   |nil=>rfl
   |cons a l w=>grind
  refine ext λa t=> ?_;rw[aD,aD];refine ext λb v=> ?_;have e:Xz a b=WQ a b:=by
   grind[Xz,WQ,jvM]
  rw[e];split
  ·simp_all[aH,aI,jqb]
  ·rfl
 exact j _ _ (jbZ k) (jbZ m)
theorem jty{m d:Nat}(h:0<aG m d):aG (m/aG m d) (d/aG m d)=1:=by
 grind[Nat.gcd_div,aL,aJ,Nat.div_self]
theorem jnV{f g:Fct}(e:f.Rto)(h:g.Rto)(j: ∀i,0<=f.args.getD i 0/\f.args.getD i 0<40)(k: ∀i,0<=g.args.getD i 0/\g.args.getD i 0<40):Eb (UQ f g)=true:=by
 have l:val f.den*val g.den≠0:=Nat.mul_ne_zero e.den h.den;refine jm9 (by show arity 9≠0;decide) O5 (λa o=> ?_) ?_
 ·have:a=f.args.getD 0 0\/a=f.args.getD 1 0\/a=g.args.getD 2 0\/a=g.args.getD 3 0:=by grind[UQ]
  grind
 ·show(if (9:Int)=9 then CV _ _ _=true else _);rw[if_pos rfl];show CV (sg (!decide (f.neg=g.neg)) (val f.abs*val g.abs)) (limbs (val f.abs*val g.abs/aG (val f.abs*val g.abs) (val f.den*val g.den))) (limbs (val f.den*val g.den/aG (val f.abs*val g.abs) (val f.den*val g.den)))=true;generalize val f.abs*val g.abs=m at*;generalize val f.den*val g.den=d at*;have b:0<aG m d:=O3;refine jp9 ?_ (jty b) λp=> ?_
  ·have:=aO (aN O (aJ m d)) b;omega
  simp_all[sg,AR,decide_eq_true_eq,aO,aN,aL]
theorem jks{b:Int}{q:Fct}(i:q.Rt)(k:0<=b/\b<40):Eb (HX a b q)=true:=by
 obtain⟨f,g,j,h⟩:=i.parts;refine jm9 f (by show(N7 a b q.args).length=_;rw[Y4];exact g) (λx e=> ?_) h;have e:x∈N7 a b q.args:=e;unfold N7 at e;grind
def WK(n:Int)(nl:List Fct):List Fo:=
 if n=4 then (match nl with|[p,q]=>(XD p q).map λf=>(f,[])|_=>[])
 else if n=9 then (Pw nl).map λf=>(f,[])
 else Li (MW n.toNat) nl nl.length 0 Nmz.zero
def allR(n:Int)(a:List Fct):List Fnd:=
 if n<1\/28<n\/(a.length:Int)≠(MW n.toNat).frm.length then [] else
 if a.any (λf=> !Eb f) then [] else Dj (a.map normF) [] (WK n (a.map normF))
theorem YT{f:Fct}(b:f.Mild):(normF f).kind=0↔Eb f=false:=by
 constructor
 ·intro h;cases a:Eb f with
  |false=>rfl
  |true=>
   have:normF f=normG f:=by unfold normF;rw[if_pos a]
   rw[this]at h;exact absurd (by rw[h];rfl) (Ys ⟨a,b⟩).parts.1
 ·intro h;unfold normF;rw[if_neg (by simp[h])];rfl
theorem jrB{a:List Fct}(b: ∀f∈a,f.Mild):(a.map normF).any (λf=>decide (f.kind=0))=a.any λf=> !Eb f:=by
 induction a with
 |nil=>rfl
 |cons f a e=>
  simp_all[aH,List.any_cons,congr,YT,Eb]
theorem jtn(n:Int):(rulT n).name=[]↔n<1\/28<n:=by
 show(DW n.toNat).name=[]↔_;by_cases a:n<1
 ·rw[show n.toNat=0 by omega];exact⟨λ_=> .inl a,λ_=>rfl⟩
 by_cases b:28<n
 ·rw[Nh _ O];exact⟨λ_=> .inr b,λ_=>rfl⟩
 ·have h:=(Wt ⟨n.toNat,O⟩).2 (by
   grind)
  grind
theorem jsU{n:Int}(a: ¬n<1)(b: ¬28<n):(rulT n).count=((MW n.toNat).frm.length:Int):=by
 have h:=(Wt ⟨n.toNat,O⟩).2 (by
  grind)
 exact h.2
theorem jm5(n:Int)(h:List Fct)(k: ∀f∈h,f.Mild)(S: ∀f∈h,f.Short2):Uu n h=allR n h:=by
 by_cases h0:n<1\/28<n\/(h.length:Int)≠(MW n.toNat).frm.length
 ·have e:allR n h=[]:=by unfold allR;rw[if_pos h0]
  have N:(rulT n).name=[]\/(h.length:Int)≠(rulT n).count:=by
   grind[jtn,jsU]
  rw[e];unfold Uu;split
  ·simp_all[Ow,if_pos]
  split
  ·simp_all[Ow,if_pos]
  simp_all[SV,if_pos]
 have N: ¬((rulT n).name=[]\/(h.length:Int)≠(rulT n).count):=by
  grind[jtn,jsU]
 by_cases hz:h.any (λf=> !Eb f)=true
 ·have e:allR n h=[]:=by simp_all[allR,if_neg,if_pos]
  rw[e];have m:=(jrB k).trans hz;simp_all[Uu,Ow,if_neg,if_pos,SV]
 have m: ¬(h.map normF).any (λf=>decide (f.kind=0))=true:=by grind[jrB]
 have e:allR n h=Dj (h.map normF) [] (WK n (h.map normF)):=by simp_all[allR,if_neg]
 rw[e];have Y: ∀f∈h,(normF f).kind≠0:=O3;have j: ∀f∈h.map normF,f.Rt:=λf i=>by
  obtain⟨g,hg,rfl⟩:=jzk.1 i;grind[NW]
 have o: ∀{f:Fct},f.Mild->Eb f=true->(normF f).Rt:=(by grind[NW,YT])
 unfold Uu WK;by_cases z:n=4
 ·rw[if_pos z,if_pos z];subst z;unfold Ow;rw[if_neg N,if_neg m];have P:h.length=2:=by have:(MW (4:Int).toNat).frm.length=2:=rfl;omega
  obtain⟨p,q,rfl⟩: ∃p q,h=[p,q]:=by
   match h,P with
   |[p,q],_=>simp
  have v:=(jlD k S p q rfl Y).1;simp only[aH,aI]at v j ⊢;have H:=j (normF p) O1;have w:=j (normF q) O1;have T:=jx6 H w;have hs1:=jav (k p O1) (S p O1);have hs2:=jav (k q O1) (S q O1);have K: ∀f∈UJ (rdR (normF p)) (rdR (normF q)) 0,Eb f=true:=by
   intro f i;unfold UJ Wz at i;simp only[aM,List.mem_flatMap]at i;obtain⟨a,M,b,X,i⟩:=i;split at i
   ·rw[List.mem_singleton]at i;subst i;exact jnV ((V8 _ H).2.1 a M) ((V8 _ w).2.1 b X) (jbZ H a M) (jbZ w b X)
   ·cases i
  refine jjB (λx l=> ?_) (λx l=> ?_) λf g=> ?_
  ·obtain⟨f,i,rfl⟩:=jzk.1 l;exact⟨v f i,O1,O1⟩
  ·obtain⟨f,i,rfl⟩:=jzk.1 l;refine⟨?_,O1,O1⟩;have:normF f∈(XD (normF p) (normF q)).map normF:=O3;rw[T]at this;obtain⟨W,F,e⟩:=jzk.1 this;rw[<-e];exact o (v W F) (K W F)
  ·have J: ∀(A B:List Fct),A.map normF=B.map normF->(∃x∈A.map (λf=>((f,[]):Fo)),normF x.1=f/\x.2=g)-> ∃x∈B.map (λf=>((f,[]):Fo)),normF x.1=f/\x.2=g:=by
    rintro A B hAB ⟨x,l,rfl,rfl⟩;obtain⟨y,hy,rfl⟩:=jzk.1 l;have:normF y∈A.map normF:=O3;simp_all
   exact⟨J _ _ T.symm,J _ _ T⟩
 rw[if_neg z,if_neg z];by_cases E:n=9
 ·rw[if_pos E,if_pos E];subst E;unfold Ow;rw[if_neg N,if_neg m];have P:h.length=2:=by have:(MW (9:Int).toNat).frm.length=2:=rfl;omega
  obtain⟨p,q,rfl⟩: ∃p q,h=[p,q]:=by
   match h,P with
   |[p,q],_=>simp
  have v:=(jkJ k p q rfl Y).1;simp only[aH,aI]at v j ⊢;have H:=j (normF p) O1;have w:=j (normF q) O1;have K: ∀f∈Pw [normF p,normF q],Eb f=true:=by
   have L:=H.parts.2.2.1;generalize normF p=p' at*;generalize normF q=q' at*;unfold Pw;simp only;split
   ·split
    ·rename_i a b M;intro f i;rw[M]at L;simp only[jzn,E8,or_false]at i L;rcases i with rfl|rfl
     ·exact jks w (L b (.inr rfl))
     ·exact jks w (L a (.inl rfl))
    ·simp
   ·simp
  refine jjB (λx l=> ?_) (λx l=> ?_) λf g=>Iff.rfl
  ·obtain⟨f,i,rfl⟩:=jzk.1 l;exact⟨v f i,O1,O1⟩
  ·obtain⟨f,i,rfl⟩:=jzk.1 l;grind
 ·rw[if_neg E,if_neg E];unfold SV;rw[if_neg N,if_neg m];obtain⟨t1,t2⟩:=jhj n.toNat O O;have G:(h.map normF).length=(DW n.toNat).prem.length:=by
   grind[List.length_map,MW,DW,Rv]
  have t:=jcL n;have Z:saysP (rulT n) (h.map normF)=saysP (DW n.toNat) (h.map normF):=rfl;obtain⟨s1,s2⟩:=jrh (sg:=Yr n.toNat) (r:=DW n.toNat) (jbS _) t1 j G;have Q:=jde (rulT n) t _ j;rw[Z]at Q;unfold jis;rw[Z,t2];refine jjB Q (λx l=> ?_) λf g=> ?_
  ·have I:=(s1 x).2 l;have:=Q x I;exact⟨o this.1 (s2 x I),this.2⟩
  grind
def P8(L:List Fnd)(f:Fct):List Grd×Bool:=match L.find? (λx=>LZ x.fact f)with|some x=>(x.grds,true)|none=>([],false)
theorem jpG{nl:List Fct}{P:List Fo}(b: ∀x∈P,Xn x): ∀x∈Q0 UD (runF nl [] P),normF x.fact=x.fact:=by
 intro x a;have a:=(TF _).mem_iff.1 a;obtain⟨⟨y,i,e,_⟩,k⟩:=(jo7 b).sub x a;have f:=(b y i).1;have j:(normF y.1).kind≠0:=O3;have g:Eb y.1=true:=by
  cases h:Eb y.1 with
  |false=>grind[absurd,YT]
  |true=>rfl
 rw[<-e];exact jyu ⟨g,f⟩
theorem jpw(Y:List Fct->List Fct)(n:Int)(a:List Fct)(l:(rulT n).count=2)
  (e: ∀p q,a=[p,q]->(∀f∈a,(normF f).kind≠0)-> ∀f∈Y (a.map normF),f.Mild): ∀x∈Ow Y n a,normF x.fact=x.fact:=by
 unfold Ow;split
 ·simp
 split
 ·simp
 ·rename_i k m;have h: ∀f∈a,(normF f).kind≠0:=O3;have b:a.length=2:=by
   omega
  obtain⟨p,q,hpq⟩: ∃p q,a=[p,q]:=by
   match a,b with
   |[p,q],_=>simp
  have j:=e p q hpq h;refine jpG λx i=> ?_;obtain⟨f,g,rfl⟩:=jzk.1 i;exact⟨j f g,O1,O1⟩
theorem jtO{n:Int}{b:List Fct}(a: ∀f∈b,f.Mild)(i: ∀f∈b,f.Short2): ∀x∈allR n b,normF x.fact=x.fact:=by
 rw[<-jm5 n b a i];unfold Uu;split
 ·exact jpw _ _ _ rfl λp q e h=>(jlD a i p q e h).1
 split
 ·exact jpw _ _ _ rfl λp q e h=>(jkJ a p q e h).1
 ·unfold SV;split
  ·simp
  split
  ·simp
  ·rename_i l;have h: ∀f∈b,(normF f).kind≠0:=O3;exact jpG (jde (rulT n) (jcL n) _ λf j=>by
    obtain⟨g,k,rfl⟩:=jzk.1 j;grind[NW])
theorem juH{n:Int}{g:List Fct}(b: ∀f∈g,f.Mild)(j: ∀f∈g,f.Short2){f:Fct}(o:f.Mild):(if (normF f).kind=0 then (([],false):List Grd×Bool) else U0 (Uu n g) (normF f))=P8 (allR n g) f:=by
 have i:=jtO (n:=n) b j;have a:=(jhP n g b j).1;rw[jm5 n g b j]at a ⊢;generalize allR n g=L at*;by_cases h:Eb f=true
 ·have p: ¬(normF f).kind=0:=(by grind[YT])
  have l:normF f=normG f:=by unfold normF;rw[if_pos h]
  rw[if_neg p];unfold U0 P8;have e:L.find? (λx=>decide (C2 x.fact (normF f)=0))=L.find? (λx=>LZ x.fact f):=by
   have q:=a.rt;clear a
   induction L with
   |nil=>rfl
   |cons x L t=>
    have k:=q x O1;have m:normG x.fact=x.fact:=by
     have:=i x O1;unfold normF at this;rwa [if_pos k.ok]at this
    have r:LZ x.fact f=decide (C2 x.fact (normF f)=0):=by
     unfold LZ;rw[k.ok,h,l,m];simp
    grind
  rw[e];rfl
 ·have h:Eb f=false:=by simpa using h
  rw[if_pos ((YT o).2 h)];grind[P8,LZ,List.find?_eq_none]
end Go.Va
namespace Go.Va
open _root_.List renaming mem_flatMap → aD, mem_iff_getElem → aG, mem_of_mem_take → aH, flatMap_append → aI, map_flatMap → aJ
open Int renaming natCast_add → qA, natCast_mul → qB, natCast_emod → qC, natCast_ediv → qD, natCast_pow → qE
open Go.Proofs Go.Proofs.Tryz
def jos:List (List Nat):=(Ah [0,0,3,7,15,0,0,96,224,480,1023])
@[simp]def jny:List Seg:=[.any [] [] (Aq [[4],[6],[31,32],[33],[34],[5],[7],[36,37],[38],[39]]),.one]
variable{i:Nat}
@[simp high]theorem jvD(l:List Fct):(l.flatMap Xi).length=l.length*5:=Qw jth l
def XR(l:List Fct):D:= .slice l.length (l.flatMap Xi)
@[simp]theorem jCm(l:List Fct):lenC (.d (XR l))=some l.length:=rfl
@[simp]theorem jCw(l:List Fct):D.flat (XR l)=false:=rfl
@[simp]theorem jCg(h:List (Nat×Blk))(i:Int)(l:List Fct):idxSl h 5 i (.d (XR l))=if 0<=i/\i<l.length then some (.d (.ref ((l.drop i.toNat).flatMap Xi))) else none:=by
 unfold XR idxSl;simp only[jvD,and_true,jdj jth]
def U8(g:Fct):Int:=atomN (g.args.getD 0 0) (g.args.getD 1 0)
def Vx(g:Fct):Int:=atomN (g.args.getD 2 0) (g.args.getD 3 0)
theorem joY{l:List Fct}(h:i<l.length):(l.drop i).flatMap Xi= .int .i64 (U8 l[i]):: .int .i64 (Vx l[i]):: .bool l[i].neg::Ad l[i].abs::Ad l[i].den::(l.drop (i+1)).flatMap Xi:=by
 rw[BQ h];rfl
theorem at_lt{g:Fct}(h: ∀i,0<=g.args.getD i 0/\g.args.getD i 0<40):(0<=U8 g/\U8 g<1600)/\0<=Vx g/\Vx g<1600:=by
 obtain⟨⟨a,b⟩,e,f⟩:=VF (h 0) (h 1);obtain⟨⟨j,k⟩,l,m⟩:=VF (h 2) (h 3);unfold U8 Vx;rw[Wi,Wi];omega
theorem joO(f:Fct)(h:f.Rt):CallsF prog 194 [.agg f.ds] (.u (.c (.d (XR (rdR f))))):=by
 have v:CallsF prog 194 [.agg f.ds] (.u (.c (.own 5 (rdR f).length ((rdR f).flatMap Xi)))):=by
  obtain⟨E,p,g,q⟩:=h.parts;have i:=h.mild;obtain⟨k,l,n,m,d⟩:=f;simp only at E p g q;by_cases r:k=4
  ·subst r;obtain⟨a,b,c,e,rfl⟩:=KQ (by rw[p];rfl:l.length=4);exact jvV a b c e (g a O1) (g b O1) (g c O1) (g e O1) n m d
  by_cases t:k=9
  ·subst t;obtain⟨a,b,c,e,rfl⟩:=KQ (by rw[p];rfl:l.length=4);rw[if_pos rfl]at q;obtain⟨x,y,w,z,F⟩:=Cz q i.oa i.od;have j:=jak i.oa i.la;have o:=jak i.od i.ld;simp only at x y w z j o;rw[x,y];exact jxL a b c e (g a O1) (g b O1) (g c O1) (g e O1) n (val m) (val d) j o w z
  ·have e:rdR ⟨k,l,n,m,d⟩=[]:=by simp[rdR,r,t]
   rw[e];exact jwv _ r t
 have k:=v.dat;simp only[R.dat,RU.dat,RC.dat]at k;rw[Ba O1]at k;exact k
def t4(a b:Fct):List Fo:=if Xz a b then [(Wn a b,[])] else []
theorem jAb(p q:Fct):(XD p q).map (λf=>((f,[]):Fo))=(rdR p).flatMap λa=>(rdR q).flatMap (t4 a):=by
 unfold XD t4;rw[aJ];congr 1;funext a;rw[aJ];congr 1;funext b;split<;>rfl
def L3(A B:List Fct)(i k:Nat):List Fo:=((A.take i).flatMap λa=>B.flatMap (t4 a))++(B.take k).flatMap (t4 (A.getD i .zero))
theorem jqz{A B:List Fct}{k:Nat}(hi:i<A.length)(a:k<B.length):L3 A B i (k+1)=L3 A B i k++t4 A[i] B[k]:=by
 unfold L3;have e:A.getD i .zero=A[i]:=by rw[AL,AD hi];rfl
 rw[Cr a,aI,e,List.append_assoc];simp
theorem juw{A B:List Fct}(hi:i<A.length):L3 A B (i+1) 0=L3 A B i B.length:=by
 unfold L3;have e:A.getD i .zero=A[i]:=by rw[AL,AD hi];rfl
 rw[Cr hi,aI,e,BM];simp
theorem juC(A B:List Fct):L3 A B A.length 0=A.flatMap λa=>B.flatMap (t4 a):=by
 unfold L3;rw[BM];simp
theorem jBQ(p q:Fct)(hp:p.Rt)(hq:q.Rt)(sp:p.Short2)(sq:q.Short2):
  CallsF prog 118 [.c (C1 [p,q])] (.u (.c (.own 6 (Dj [p,q] [] ((XD p q).map λf=>(f,[]))).length ((Dj [p,q] [] ((XD p q).map λf=>(f,[]))).flatMap Fnd.ds)))):=by
 have k1:=joO p hp;have k2:=joO q hq;obtain⟨_,H,la⟩:=V8 p hp;obtain⟨_,I,lb⟩:=V8 q hq;have W:=jbZ hp;have X:=jbZ hq;have sa:=jgA sp;have sb:=jgA sq;rw[jAb,<-juC];generalize rdR p=A at*;generalize rdR q=B at*;have y: ∀i k (hi:i<A.length) (g:k<B.length),(Wn A[i] B[k]).Mild/\(normF (Wn A[i] B[k])).Rt:=λi k hi g=>by
  have w:=AZ hi;have o:=AZ g;have j:=jrt (H _ w) (I _ o) (sa _ w) (sb _ o);have ho:=jnV (H _ w) (I _ o) (W _ w) (X _ o);refine⟨⟨j.la,j.ld,j.oa,j.od,by simp[Wn]⟩,?_⟩;rw[jqb (W _ w) (X _ o)];exact NW j λh=>by rw[(YT j).1 h]at ho;cases ho
 have S: ∀x∈[p,q],x.Rt:=λx hx=>by
  simp only[jzn,E8,or_false]at hx;rcases hx with rfl|rfl<;>assumption
 have G: ∀a∈A,∀b∈B,∀x∈t4 a b,(normF x.1).Rt/\GK x.2:=λa w b o x hx=>by
  obtain⟨i,hi,rfl⟩:=aG.1 w;obtain⟨k,g,rfl⟩:=aG.1 o;unfold t4 at hx;split at hx
  ·rw[List.mem_singleton]at hx;subst hx;exact⟨(y i k hi g).2,by simp[GK]⟩
  ·cases hx
 have v: ∀i k,(i<A.length\/k=0)-> ∀x∈L3 A B i k,(normF x.1).Rt/\GK x.2:=λi k E x hx=>by
  unfold L3 at hx;rcases List.mem_append.1 hx with hx|hx
  ·obtain⟨a,w,hx⟩:=aD.1 hx;obtain⟨b,o,hx⟩:=aD.1 hx;exact G a (aH w) b o x hx
  ·obtain⟨b,o,hx⟩:=aD.1 hx;rcases E with h|h
   ·have e:A.getD i .zero=A[i]:=by rw[AL,AD h];rfl
    rw[e]at hx;exact G _ (AZ h) b (aH o) x hx
   ·subst h;cases o
 have tl: ∀a b,(t4 a b).length<=1:=λa b=>by unfold t4;split<;>simp
 have t: ∀i k,(L3 A B i k).length<=1000:=λi k=>by
  unfold L3;have h1: ∀a,(B.flatMap (t4 a)).length<=2:=λa=>Nat.le_trans (WE (m:=1) λb _=>tl a b) O;have h2:=WE (f:=λa=>B.flatMap (t4 a)) (m:=2) (l:=A.take i) λa _=>h1 a;have h3:=WE (f:=t4 (A.getD i .zero)) (m:=1) (l:=B.take k) λb _=>tl _ b;rw[List.length_append];simp only[A8]at h2 h3;omega
 have z: ∀i k,(i<A.length\/k=0)-> ∀x∈Dj [p,q] [] (L3 A B i k),x.fact.Rt/\GK x.grds:=λi k E=>jdm _ O1 (v i k E);have M: ∀i k,(Dj [p,q] [] (L3 A B i k)).length<=1000:=λi k=>Nat.le_trans (je0 _ _ _) (by have:=t i k;simp;omega);have P: ∀i k (hi:i<A.length) (g:k<B.length),Xz A[i] B[k]=true->Dj [p,q] [] (L3 A B i (k+1))=noteR [p,q] (Dj [p,q] [] (L3 A B i k)) (Wn A[i] B[k]) []:=λi k hi g j=>by
  rw[jqz hi g,jgB];unfold t4;rw[if_pos j];rfl
 have K: ∀i k (hi:i<A.length) (g:k<B.length),¬Xz A[i] B[k]=true->Dj [p,q] [] (L3 A B i (k+1))=Dj [p,q] [] (L3 A B i k):=λi k hi g j=>by
  rw[jqz hi g,jgB];unfold t4;rw[if_neg j];rfl
 have N: ∀i (hi:i<A.length),Dj [p,q] [] (L3 A B (i+1) 0)=Dj [p,q] [] (L3 A B i B.length):=λi hi=>by rw[juw hi]
 have J:Dj [p,q] [] (L3 A B 0 0)=[]:=rfl;generalize hL:(λi k=>Dj [p,q] [] (L3 A B i k))=L at*;have Q: ∀i k,Dj [p,q] [] (L3 A B i k)=L i k:=λi k=>congrFun (congrFun hL i) k;simp only[Q]at J N K P M z ⊢;have T:=λi k (hi:i<A.length) (g:k<B.length)=>jib [p,q] (L i k) (Wn A[i] B[k]) [] S O1 (z i k (.inl hi)) (by have:=M i k;omega) (y i k hi g).1 (y i k hi g).2 (by simp[GK]) O1;have kM:=λi k (hi:i<A.length) (g:k<B.length)=>jvT A[i].neg B[k].neg A[i].abs A[i].den B[k].abs B[k].den (H _ (AZ hi)).mild.oa (sa _ (AZ hi)).1 (H _ (AZ hi)).mild.od (sa _ (AZ hi)).2 (I _ (AZ g)).mild.oa (sb _ (AZ g)).1 (I _ (AZ g)).mild.od (sb _ (AZ g)).2 (H _ (AZ hi)).den (I _ (AZ g)).den;have lA:=λi (hi:i<A.length)=>at_lt (W _ (AZ hi));have lB:=λi (hi:i<B.length)=>at_lt (X _ (AZ hi));have r: ∀i k (hi:i<A.length) (g:k<B.length),Xz A[i] B[k]=decide (Vx A[i]=U8 B[k]):=λi k hi g=>rfl;have ep:C1 [p,q]=D.slice 2 (p.ds++q.ds):=by simp[C1]
 clear H I W X sa sb sp sq y G v tl t z hL Q S hp hq;simp only[ep]at T ⊢;simp only[Fct.ds,RB]at*;refine oB func118 ?_;refine AA (Ah [0,1,3,7,0,16,48,127,255,511]) [.any [] [] (Aq [[0],[11],[12],[13],[0],[15],[16]]),.one,.one,.one] O5 ?_;refine rB ?_;refine aB k1 ?_;refine aB k2 ?_;refine AV (λi:Nat=>⟨[(6,vI .i64 i),(5,vC (.d (XR B))),(4,vC (.d (XR A))),(3,vC (.sl 3 0 (L i 0).length)),(0,vC (.d (.slice 2 ([.int .i64 p.kind,AT p.args,.bool p.neg,Ad p.abs,Ad p.den]++[.int .i64 q.kind,AT q.args,.bool q.neg,Ad q.abs,Ad q.den]))))],[(3,.row 6 ((L i 0).flatMap Fnd.ds) true)]⟩)
  (λi=>i<=A.length) (λi=>A.length - i) 0 (by simp[AW,lk,St.le,vI,vC,J]) O ?_
 rintro i hi;by_cases h:i<A.length
 ·refine rB1 h ?_;refine CE [(3,76)] (λk:Nat=>⟨[(7,vI .i64 k),(6,vI .i64 i),(5,vC (.d (XR B))),(4,vC (.d (XR A))),(3,vC (.sl 3 0 (L i k).length)),(0,vC (.d (.slice 2 ([.int .i64 p.kind,AT p.args,.bool p.neg,Ad p.abs,Ad p.den]++[.int .i64 q.kind,AT q.args,.bool q.neg,Ad q.abs,Ad q.den]))))],[(3,.row 6 ((L i k).flatMap Fnd.ds) true)]⟩)
   (λk=>k<=B.length) (λk=>B.length - k) 0 (by simp[AW,lk,St.le,vI,vC]) O ?_
  rintro k hk';by_cases g:k<B.length
  ·have T:=T i k h g;have kM:=kM i k h g;have lA:=lA i h;have lB:=lB k g;have Y:=joY h;have Z:=joY g;by_cases j:Xz A[i] B[k]=true
   ·rw[<-P i k h g j]at T;have F:Vx A[i]=U8 B[k]:=by rw[r i k h g]at j;simpa using j
    have t1:(U8 A[i]).tdiv 40=U8 A[i]/40:=Int.tdiv_eq_ediv_of_nonneg lA.1.1;have t2:(U8 A[i]).tmod 40=U8 A[i]%40:=Int.tmod_eq_emod_of_nonneg lA.1.1;have t3:(Vx B[k]).tdiv 40=Vx B[k]/40:=Int.tdiv_eq_ediv_of_nonneg lB.2.1;have t4:(Vx B[k]).tmod 40=Vx B[k]%40:=Int.tmod_eq_emod_of_nonneg lB.2.1;refine rB1 g ?_;refine AA jos jny O5 ?_;simp -implicitDefEqProofs[jJ,-qA,-qB,-qC,-qD,-qE,h,g,Y,Z,F];refine AA (Ah [0,0,3,7,15,0,0,96,224,480,31,2047]) [.any [] [] (Aq [[4],[6],[42,43],[44],[45],[5],[7],[47,48],[49],[50],[46]]),.one] O5 ?_;simp -implicitDefEqProofs[jJ,-qA,-qB,-qC,-qD,-qE,h,g,Y,Z];refine AA (Ah [0,1,0,4,0,16,0,64,255,0,0,1536,3584,7680,0,0,49152,114688,245760,523776,1048575,0,4194303]) [.any [] [10,60] [⟨0,[8],[10],[10,60],[]⟩,⟨0,[52],[10],[10,60],[]⟩,⟨0,[8],[10],[10,60],[]⟩,⟨0,[54],[10],[10,60],[]⟩,⟨0,[9],[10],[10,60],[]⟩,⟨0,[56],[10],[10,60],[]⟩,⟨0,[9],[10],[10,60],[]⟩,⟨0,[58],[10],[10,60],[]⟩,⟨4,[53,55,57,59],[10],[10],[]⟩,⟨0,[4],[10],[10,60],[]⟩,⟨0,[6],[10],[10,60],[]⟩,⟨0,[61,62],[10],[10,60],[]⟩,⟨0,[63],[10],[10,60],[]⟩,⟨0,[64],[10],[10,60],[]⟩,⟨0,[5],[10],[10,60],[]⟩,⟨0,[7],[10],[10,60],[]⟩,⟨0,[66,67],[10],[10,60],[]⟩,⟨0,[68],[10],[10,60],[]⟩,⟨0,[69],[10],[10,60],[]⟩,⟨0,[65,70],[10],[10,60],[]⟩,⟨0,[60,71],[10],[10],[]⟩,⟨1,[],[],[60],[]⟩],.one] O5 ?_;simp -implicitDefEqProofs[jJ,-qA,-qB,-qC,-qD,-qE,h,g,Y,Z,t1,t2,t3,t4];refine⟨O,O,?_⟩;refine aB kM ?_;refine .inr (.inr (.inr (.inr (.inr ⟨rfl,3,(L i k).length,6,_,76,_,_,_,_,rfl,by simp[lk],?_,rfl,T,?_⟩))))
    ·rfl
    refine rB ?_;exact⟨O,k+1,⟨⟨rfl,rfl⟩,rfl⟩,O,O⟩
   ·have F: ¬Vx A[i]=U8 B[k]:=by rw[r i k h g]at j;simpa using j
    refine rB1 g ?_;refine AA jos jny O5 ?_;simp -implicitDefEqProofs[jJ,-qA,-qB,-qC,-qD,-qE,h,g,Y,Z,F];have e:=K i k h g j;exact⟨O,k+1,⟨⟨rfl,by rw[e]⟩,by rw[e]⟩,O,O⟩
  ·have hk2:k=B.length:=O;subst hk2;refine rB ?_;have e:=N i h;exact⟨O,i+1,⟨⟨rfl,by rw[e]⟩,by rw[e]⟩,O,O⟩
 ·have hi2:i=A.length:=O;subst hi2;exact kB
theorem jxD(p q:Fct)(h:p.kind≠8):CallsF prog 119 [.c (C1 [p,q])] (.u (.c (.own 6 0 []))):=by
 have a:C1 [p,q]=D.slice 2 (p.ds++q.ds):=by simp[C1]
 rw[a];simp only[Fct.ds];refine cO func119 rfl ?_;exact kA1 h
def subT(u v:Int)(l:List Int)(k:Nat):List Int:=N7 u v (l.take k)
theorem joA{u v:Int}{l:List Int}{k:Nat}(h:k<l.length):subT u v l (k+1)=subT u v l k++[if l[k]=u then v else l[k]]:=by
 unfold subT N7;rw[Cr h,List.map_append];rfl
theorem jtr{u v:Int}{l:List Int}{k:Nat}(h:k<=l.length):(subT u v l k).length=k:=by
 unfold subT;rw[Y4,A8];omega
theorem jti(u v:Int)(l:List Int):subT u v l l.length=N7 u v l:=by unfold subT;rw[BM]
theorem jBu(p q:Fct)(hp:p.Rt)(E:q.Rt)(hk:p.kind=8)(a b:Int)(Z:p.args=[a,b]):
  CallsF prog 119 [.c (C1 [p,q])] (.u (.c (.own 6 (Dj [p,q] [] [(HX a b q,[]),(HX b a q,[])]).length ((Dj [p,q] [] [(HX a b q,[]),(HX b a q,[])]).flatMap Fnd.ds)))):=by
 have z: ∀x∈[p,q],x.Rt:=λx hx=>by
  simp only[jzn,E8,or_false]at hx;rcases hx with rfl|rfl<;>assumption
 have J:=hp.parts.2.2.1;rw[Z]at J;have okS: ∀u v:Int,(0<=v/\v<40)->(HX u v q).Mild/\(normF (HX u v q)).Rt:=λu v hv=>by
  have M:(HX u v q).Mild:=jdo E.mild;have ho:=jks (a:=u) E hv;exact⟨M,NW M λh=>by rw[(YT M).1 h]at ho;cases ho⟩
 have K:=okS a b (J b O1);have Q:=okS b a (J a O1);have n0:q.args.length≠0:=by
  have:=E.parts;rw[this.2.1];exact this.1
 have nb:q.args.length<=8:=by
  rw[E.parts.2.1];unfold arity;split
  ·omega
  ·split
   ·omega
   ·split
    ·omega
    ·split<;>omega
 have N:=jib [p,q] [] (HX a b q) [] z O1 O1 O1 K.1 K.2 (by simp[GK]) O1;have i1: ∀x∈noteR [p,q] [] (HX a b q) [],x.fact.Rt/\GK x.grds:=jqW K.2 (by simp[GK]) O1;have l1:=jo2 [p,q] [] (HX a b q) [];have P:=jib [p,q] (noteR [p,q] [] (HX a b q) []) (HX b a q) [] z O1 i1 (by simp at l1;omega) Q.1 Q.2 (by simp[GK]) O1;rw[show Dj [p,q] [] [(HX a b q,[]),(HX b a q,[])]=noteR [p,q] (noteR [p,q] [] (HX a b q) []) (HX b a q) [] from rfl];have ep:C1 [p,q]=D.slice 2 (p.ds++q.ds):=by simp[C1]
 have X:(HX a b q).ds=[.int .i64 q.kind,.slice q.args.length ((subT a b q.args q.args.length).map i64),.bool q.neg,Ad q.abs,Ad q.den]:=by
  rw[jti];show[_,AT _,_,_,_]=_;unfold AT EC HX;rw[Y4]
 have Y:(HX b a q).ds=[.int .i64 q.kind,.slice q.args.length ((subT b a q.args q.args.length).map i64),.bool q.neg,Ad q.abs,Ad q.den]:=by
  rw[jti];show[_,AT _,_,_,_]=_;unfold AT EC HX;rw[Y4]
 simp only[ep,X,Y]at N P ⊢;generalize noteR [p,q] (noteR [p,q] [] (HX a b q) []) (HX b a q) []=W at*;generalize noteR [p,q] [] (HX a b q) []=w at*;have S:=λk (h:k<q.args.length)=> @joA a b q.args k h;have T:=λk (h:k<q.args.length)=> @joA b a q.args k h;have H:=λk (h:k<=q.args.length)=> @jtr a b q.args k h;have I:=λk (h:k<=q.args.length)=> @jtr b a q.args k h;have F:subT a b q.args 0=[]:=rfl;have G:subT b a q.args 0=[]:=rfl;generalize subT a b q.args=T1 at*;generalize subT b a q.args=T2 at*;clear hp E z J okS K Q i1 X Y;simp only[Fct.ds,Z,hk]at*;obtain⟨l,e,r,o,j⟩:=q;simp only at*;refine oA func119 ?_;refine CE [(3,63)] (λi:Nat=>match i with
   |0=>⟨[(4,vI .i64 0),(3,vC (.sl 3 0 0)),(0,vC (.d (.slice 2 ([.int .i64 8,AT [a,b],.bool p.neg,Ad p.abs,Ad p.den]++[.int .i64 l,AT e,.bool r,Ad o,Ad j]))))],[(3,.row 6 [] true)]⟩
   |1=>⟨[(4,vI .i64 1),(3,vC (.sl 3 0 w.length)),(0,vC (.d (.slice 2 ([.int .i64 8,AT [a,b],.bool p.neg,Ad p.abs,Ad p.den]++[.int .i64 l,AT e,.bool r,Ad o,Ad j]))))],[(3,.row 6 (w.flatMap Fnd.ds) true)]⟩
   |_=>⟨[(4,vI .i64 2),(3,vC (.sl 3 0 W.length)),(0,vC (.d (.slice 2 ([.int .i64 8,AT [a,b],.bool p.neg,Ad p.abs,Ad p.den]++[.int .i64 l,AT e,.bool r,Ad o,Ad j]))))],[(3,.row 6 (W.flatMap Fnd.ds) true)]⟩)
  (λi=>i<=2) (λi=>2 - i) 0 (by simp[AW,lk,St.le,vI,vC]) O ?_
 rintro i hi
 match i,hi with
 |0,_=>
  refine rA ?_;refine AV (λk:Nat=>match k with
    |0=>⟨[(6,vI .i64 0),(5,vC (.ptr 5 0)),(4,vI .i64 0),(3,vC (.sl 3 0 0)),(0,vC (.d (.slice 2 ([.int .i64 8,AT [a,b],.bool p.neg,Ad p.abs,Ad p.den]++[.int .i64 l,AT e,.bool r,Ad o,Ad j]))))],[(5,.box [.d (.int .i64 l),.nl,.d (.bool r),.d (Ad o),.d (Ad j)]),(3,.row 6 [] true)]⟩
    |k+1=>⟨[(6,vI .i64 (k+1:Nat)),(5,vC (.ptr 5 0)),(4,vI .i64 0),(3,vC (.sl 3 0 0)),(0,vC (.d (.slice 2 ([.int .i64 8,AT [a,b],.bool p.neg,Ad p.abs,Ad p.den]++[.int .i64 l,AT e,.bool r,Ad o,Ad j]))))],[(5,.box [.d (.int .i64 l),.sl 58 0 (k+1),.d (.bool r),.d (Ad o),.d (Ad j)]),(58,.row 1 ((T1 (k+1)).map i64) true),(3,.row 6 [] true)]⟩)
   (λk=>k<=e.length) (λk=>e.length - k) 0 (by simp[AW,lk,St.le,vI,vC]) O ?_
  rintro k y;by_cases h:k<e.length
  ·have g:=S k h;have t:=H k y;have hg:(e.drop k).map i64= .int .i64 e[k]::(e.drop (k+1)).map i64:=by rw[BQ h];rfl
   by_cases f:e[k]=a
   ·rw[if_pos f]at g;cases k with
    |zero=>
     refine rD2 h f ?_;exact⟨1,by simp[AW,lk,g,F,i64],O,O⟩
    |succ k=>
     refine rD2 h f ?_;exact⟨O,⟨O,O⟩,O,k+2,by simp[AW,lk,g,i64],O,O⟩
   ·rw[if_neg f]at g;cases k with
    |zero=>
     refine rD2 h f ?_;exact⟨1,by simp[AW,lk,g,F,i64],O,O⟩
    |succ k=>
     refine rD2 h f ?_;exact⟨O,⟨O,O⟩,O,k+2,by simp[AW,lk,g,i64],O,O⟩
  ·obtain⟨k,rfl⟩: ∃m,k=m+1:=⟨k - 1,O⟩
   have L:k+1=e.length:=O;have t:=H (k+1) O;rw[<-L]at N;refine rA1 h ?_;refine .inr (.inr (.inr (.inr (.inl (.inr (.inr (.inr (.inl ⟨rfl,[58],3,0,6,_,63,_,_,_,_,rfl,O2,?_,?_,rfl,N,?_⟩))))))))
   ·simp -implicitDefEqProofs[jJ,-qA,-qB,lk]
   ·simp -implicitDefEqProofs[jJ,-qA,-qB,U.toA,toD,t];exact⟨Ba (by simp[t]),rfl⟩
   refine rA1 t ?_;exact⟨1,by simp[AW,lk],O,O⟩
 |1,_=>
  refine rA ?_;refine AV (λk:Nat=>match k with
    |0=>⟨[(6,vI .i64 0),(5,vC (.ptr 5 0)),(4,vI .i64 1),(3,vC (.sl 3 0 w.length)),(0,vC (.d (.slice 2 ([.int .i64 8,AT [a,b],.bool p.neg,Ad p.abs,Ad p.den]++[.int .i64 l,AT e,.bool r,Ad o,Ad j]))))],[(5,.box [.d (.int .i64 l),.nl,.d (.bool r),.d (Ad o),.d (Ad j)]),(3,.row 6 (w.flatMap Fnd.ds) true)]⟩
    |k+1=>⟨[(6,vI .i64 (k+1:Nat)),(5,vC (.ptr 5 0)),(4,vI .i64 1),(3,vC (.sl 3 0 w.length)),(0,vC (.d (.slice 2 ([.int .i64 8,AT [a,b],.bool p.neg,Ad p.abs,Ad p.den]++[.int .i64 l,AT e,.bool r,Ad o,Ad j]))))],[(5,.box [.d (.int .i64 l),.sl 58 0 (k+1),.d (.bool r),.d (Ad o),.d (Ad j)]),(58,.row 1 ((T2 (k+1)).map i64) true),(3,.row 6 (w.flatMap Fnd.ds) true)]⟩)
   (λk=>k<=e.length) (λk=>e.length - k) 0 (by simp[AW,lk,St.le,vI,vC]) O ?_
  rintro k y;by_cases h:k<e.length
  ·have g:=T k h;have t:=I k y;have hg:(e.drop k).map i64= .int .i64 e[k]::(e.drop (k+1)).map i64:=by rw[BQ h];rfl
   by_cases f:e[k]=b
   ·rw[if_pos f]at g;cases k with
    |zero=>
     refine rD2 h f ?_;exact⟨1,by simp[AW,lk,g,G,i64],O,O⟩
    |succ k=>
     refine rD2 h f ?_;exact⟨O,⟨O,O⟩,O,k+2,by simp[AW,lk,g,i64],O,O⟩
   ·rw[if_neg f]at g;cases k with
    |zero=>
     refine rD2 h f ?_;exact⟨1,by simp[AW,lk,g,G,i64],O,O⟩
    |succ k=>
     refine rD2 h f ?_;exact⟨O,⟨O,O⟩,O,k+2,by simp[AW,lk,g,i64],O,O⟩
  ·obtain⟨k,rfl⟩: ∃m,k=m+1:=⟨k - 1,O⟩
   have L:k+1=e.length:=O;have t:=I (k+1) O;rw[<-L]at P;refine rA1 h ?_;refine .inr (.inr (.inr (.inr (.inl (.inr (.inr (.inr (.inl ⟨rfl,[58],3,w.length,6,_,63,_,_,_,_,rfl,O2,?_,?_,rfl,P,?_⟩))))))))
   ·simp -implicitDefEqProofs[jJ,-qA,-qB,lk]
   ·simp -implicitDefEqProofs[jJ,-qA,-qB,U.toA,toD,t];exact⟨Ba (by simp[t]),rfl⟩
   refine rA1 t ?_;exact⟨2,by simp[AW,lk],O,O⟩
 |2,_=>exact kA
end Go.Va
