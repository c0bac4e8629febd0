/- a part of the proof -/
import Derived.Test.YtplacedebenpaaaGreatDoorEaq
import Derived.Test.YtplacedebenpaaaGreatDoorEas
import Derived.Test.YtplacedebenpaaaGreatDoorEam
import Derived.Deep.Slices
set_option linter.all false
set_option maxHeartbeats 4000000
set_option maxRecDepth 100000
namespace Go.Va
open _root_.List renaming flatMap_cons → aD, take_append → aG, length_cons → aH
open Int renaming natCast_add → qA, natCast_mul → qB, natCast_emod → qC, natCast_ediv → qD, natCast_pow → qE
open Go.Proofs Go.Proofs.Tryz
section
variable {α:Type} {k:Nat} {e:α->List D} (he: ∀x,(e x).length=k)
include he
theorem Qw(l:List α):(l.flatMap e).length=l.length*k:=by
 induction l with
 |nil=>simp
 |cons a l b=>grind
theorem jdj(l:List α)(i:Nat):(l.flatMap e).drop (i*k)=(l.drop i).flatMap e:=by
 induction l generalizing i with
 |nil=>simp
 |cons a l b=>
  cases i with
  |zero=>simp
  |succ i=>
   simp_all[aD,List.drop_succ_cons,List.drop_append,DU,Nat.add_mul,List.nil_append,Nat.one_mul,Nat.add_sub_cancel]
theorem jd2(l:List α)(i:Nat):(l.flatMap e).take (i*k)=(l.take i).flatMap e:=by
 induction l generalizing i with
 |nil=>simp
 |cons a l b=>
  cases i with
  |zero=>simp
  |succ i=>
   simp_all[aD,List.take_succ_cons,aG,Ba,Nat.add_mul,Nat.one_mul,Nat.add_sub_cancel]
theorem Ic(l:List α)(i:Nat)(h:i<l.length):((l.flatMap e).drop (i*k)).take k=e l[i]:=by
 rw[jdj he,BQ h,aD,aG,Ba (by rw[he];omega),he,Nat.sub_self];simp
end
def LC(s:Int×Int):List D:=[i64 s.1,i64 s.2]
theorem jo3(s:Int×Int):(LC s).length=2:=rfl
theorem Fct.ds_len(f:Fct):f.ds.length=5:=rfl
@[simp high]theorem jy5(l:List (Int×Int)):(l.flatMap LC).length=l.length*2:=Qw jo3 l
@[simp high]theorem jdG(l:List Fct):(l.flatMap Fct.ds).length=l.length*5:=Qw Fct.ds_len l
def Ta(l:List (Int×Int)):D:= .slice l.length (l.flatMap LC)
def C1(l:List Fct):D:= .slice l.length (l.flatMap Fct.ds)
@[simp]theorem jCC(l:List (Int×Int)):lenC (.d (Ta l))=some l.length:=rfl
@[simp]theorem jCz(l:List Fct):lenC (.d (C1 l))=some l.length:=rfl
@[simp]theorem jCu(h:List (Nat×Blk))(i:Int)(l:List (Int×Int)):idxSl h 2 i (.d (Ta l))=if 0<=i/\i<l.length then some (.d (.ref ((l.drop i.toNat).flatMap LC))) else none:=by
 unfold Ta idxSl;simp only[jy5,and_true,jdj jo3]
@[simp]theorem jCa(h:List (Nat×Blk))(i:Int)(l:List Fct):idxSl h 5 i (.d (C1 l))=if 0<=i/\i<l.length then some (.d (.ref ((l.drop i.toNat).flatMap Fct.ds))) else none:=by
 unfold C1 idxSl;simp only[jdG,and_true,jdj Fct.ds_len]
@[simp]theorem jCF(l:List (Int×Int)):D.flat (Ta l)=false:=rfl
@[simp]theorem jCb(l:List Fct):D.flat (C1 l)=false:=rfl
theorem jpc{l:List (Int×Int)}{i:Nat}(h:i<l.length):(l.drop i).flatMap LC= .int .i64 l[i].1:: .int .i64 l[i].2::(l.drop (i+1)).flatMap LC:=by
 rw[BQ h];rfl
theorem VX{l:List Fct}{i:Nat}(h:i<l.length):(l.drop i).flatMap Fct.ds= .int .i64 l[i].kind::AT l[i].args:: .bool l[i].neg::Ad l[i].abs::Ad l[i].den::(l.drop (i+1)).flatMap Fct.ds:=by
 rw[BQ h];rfl
def lo(a b:Int):Int:=if b<a then b else a
def hi(a b:Int):Int:=if a<b then b else a
def AQ(a b:Int):Int×Int:=(lo a b,hi a b)
theorem joF(a b:Int):CallsF prog 257 [.c (.int .i64 a),.c (.int .i64 b)] (.u (.agg [.d (.int .i64 (lo a b)),.d (.int .i64 (hi a b))])):=by
 refine cO func257 rfl ?_;simp -implicitDefEqProofs[jJ,-qA,-qB,-qC,-qD,-qE,lo,hi]
theorem Ut(a b:Int):CallsF prog 70 [.c (.int .i64 a),.c (.int .i64 b)] (.u (.agg [.d (.int .i64 (lo a b)),.d (.int .i64 (hi a b))])):=by
 refine cO func70 rfl ?_;simp -implicitDefEqProofs[jJ,-qA,-qB,-qC,-qD,-qE,lo,hi]
def Hg:List Int->List (Int×Int)
 |a::b::l=>AQ a b::Hg l
 |_=>[]
theorem jd0: ∀l:List Int,(Hg l).length=l.length/2
 |[]=>rfl
 |[a]=>by simp[Hg]
 |a::b::l=>by
  simp only[Hg,aH,jd0 l];omega
theorem jqi: ∀(l:List Int) (m:Nat) (h:2*m+1<l.length),(Hg l)[m]'(by rw[jd0];omega)=AQ (l[2*m]' O) l[2*m+1]
 |a::b::l,0,_=>rfl
 |a::b::l,m+1,h=>by
  have:=jqi l m (by simp at h;omega);simp only[Hg,List.getElem_cons_succ,this];rfl
theorem jrm{l:List Int}{m:Nat}(h:2*m+1<l.length):((Hg l).take (m+1)).flatMap LC=((Hg l).take m).flatMap LC++[.int .i64 (lo (l[2*m]' O) l[2*m+1]),.int .i64 (hi (l[2*m]' O) l[2*m+1])]:=by
 rw[Cr (by rw[jd0];omega),List.flatMap_append,jqi l m h];rfl
theorem jsp(f:Fct)(w:f.args.length<=1099511627776):CallsF prog 177 [.agg f.ds] (.u (.c (.own 2 (Hg f.args).length ((Hg f.args).flatMap LC)))):=by
 refine cO func177 rfl ?_;obtain⟨b,args,o,j,k⟩:=f;simp only at w;refine rB ?_;refine CE [(3,27)] (λx:Nat×Nat×List D=>⟨[(4,vI .i64 x.1),(3,vC (.sl 3 0 x.2.1)),(1,vC (.ptr 1 0))],[(3,.row 2 x.2.2 true),(1,.box [.d (.int .i64 b),.d (AT args),.d (.bool o),.d (Ad j),.d (Ad k)])]⟩) (λx=>x.1=2*x.2.1/\x.2.1<=(Hg args).length/\x.2.2=((Hg args).take x.2.1).flatMap LC) (λx=>(Hg args).length - x.2.1) (0,0,[]) O1 O1 ?_;rintro⟨i,m,z⟩ ⟨a,y,p⟩;simp only at a y p;subst p;have q:=jd0 args;by_cases h:i+1<args.length
 ·have e:=jrm (l:=args) (m:=m) O;have r:args[2*m]' O=args[i]:=by simp only[a]
  have t:args[2*m+1]' O=args[i+1]:=by simp only[a]
  rw[r,t]at e;have g:i<=9223372036854775806:=O;have v:i<args.length:=O;refine rB2 h g ?_;refine AA (Ah [0,0,2,0,14,30,0,64,0,256,960,1984,4094,8190,16383,32767]) [.any [] [26] ([⟨0,[3],[26],[26],[]⟩]++AG [26] [[1],[14],[4],[15,16],[17],[1],[19],[4],[21],[20,22],[23],[18,24]]++[⟨1,[25],[],[],[]⟩]),.one,.one] O5 ?_;simp -implicitDefEqProofs[jJ,-qA,-qB,-qC,-qD,-qE,h,v,g,i64];refine aB (joF args[i] args[i+1]) ?_;grind
 ·have g:i<=9223372036854775806:=O;have e:m=(Hg args).length:=O;subst e;simp -implicitDefEqProofs[jJ,-qA,-qB,-qC,-qD,-qE,h,g]
def Tw(l:List (Int×Int)):List Int:=l.flatMap λs=>[s.1,s.2]
theorem jjo(l:List (Int×Int)):(Tw l).length=l.length*2:=by
 induction l with
 |nil=>rfl
 |cons a l b=>grind[Tw,List.length_append,aH,List.length_nil]
theorem Y3(a b:Int):CallsF prog 178 [.agg [.int .i64 a,.int .i64 b]] (.u (.c (.d (.bool (decide (a=b)))))):=by
 refine cO func178 rfl ?_;exact kB
theorem jq0(a b p:Int):CallsF prog 258 [.agg [.int .i64 a,.int .i64 b],.c (.int .i64 p)] (.u (.c (.d (.bool (decide (a=p)||decide (b=p)))))):=by
 refine cO func258 rfl ?_;by_cases h:a=p<;>simp -implicitDefEqProofs[jJ,-qA,-qB,-qC,-qD,-qE,h]
def oth(a b p:Int):Int:=a+b - p
theorem jqc(a b p:Int)(e:0<=a/\a<64)(f:0<=b/\b<64)(g:0<=p/\p<64):CallsF prog 259 [.agg [.int .i64 a,.int .i64 b],.c (.int .i64 p)] (.u (.c (.d (.int .i64 (oth a b p))))):=by
 refine cO func259 rfl ?_;simp -implicitDefEqProofs[jJ,-qA,-qB,-qC,-qD,-qE,oth];omega
def Dg(p q:Int×Int):Int:=It [Nk p.1 q.1,Nk p.2 q.2]
theorem ja4(a b c d:Int):CallsF prog 260 [.agg [.int .i64 a,.int .i64 b],.agg [.int .i64 c,.int .i64 d]] (.u (.c (.d (.int .i64 (Dg (a,b) (c,d)))))):=by
 refine cO func260 rfl ?_;have k:CallsF prog 56 [.c (.slice 2 [.int .i64 (Nk a c),.int .i64 (Nk b d)])] _:=jc4 [Nk a c,Nk b d] O1;refine rB ?_;refine AA (Ah [0,1,0,4,15,0,32,0,128,511,1023,2047,4095]) [.any [] [] (Aq [[2],[5],[3],[7],[6,8],[2],[10],[3],[12]]),.one,.one,.one,.one] O5 ?_;refine rB ?_;refine aB (jbL a c) ?_;refine aB (jbL b d) ?_;refine Ac k ?_;simp_all[List.map_set,jaW,Int.natCast_add,Int.natCast_mul,Int.natCast_emod,Int.natCast_ediv,Int.natCast_pow,XW,SS,jcn,WN,jeM,jgi,Sy,jjm,Pc,VD,TV,jf4,QG,jfQ,jcP,jhO,jer,jhd,jfc,Xt,jca,jfu,jap,jcG,jaL,Dg]
theorem jpu(a:Int)(neg:Bool)(b f:List Nat)(l:List (Int×Int))(p:l.length<=1099511627776):CallsF prog 261 [.c (.int .i64 a),.agg [.bool neg,Ad b,Ad f],.c (Ta l)]
  (.u (.agg [.d (.int .i64 a),.d (AT (Tw l)),.d (.bool neg),.d (Ad b),.d (Ad f)])):=by
 refine oB func261 ?_;refine AV (λi:Nat=>⟨[(15,vI .i64 i),(14,vI .i64 l.length),(13,vC (.d (Ta l))),(7,vC (.ptr 7 0)),(6,vC (.ptr 6 0))],match i with
  |0=>[(7,.box [.d (.int .i64 a),.nl,.d (.bool neg),.d (Ad b),.d (Ad f)]),(6,.box [.d (.int .i64 0),.nl,.d (.bool false),.nl,.nl])]
  |n+1=>[(7,.box [.d (.int .i64 a),.sl 26 0 ((n+1)*2),.d (.bool neg),.d (Ad b),.d (Ad f)]),(6,.box [.d (.int .i64 0),.nl,.d (.bool false),.nl,.nl]),(26,.row 1 ((Tw (l.take (n+1))).map i64) true)]⟩)
  (λi=>i<=l.length) (λi=>l.length - i) 0 O1 O ?_
 rintro i hi;by_cases h:i<l.length
 ·have e:Tw (l.take (i+1))=Tw (l.take i)++[l[i].1,l[i].2]:=by
   rw[Cr h];unfold Tw;grind
  have j:=jpc h;have g:=jjo (l.take i);rw[A8,Bs O]at g;cases i with
  |zero=>
   have o:(Tw (l.take 1)).map i64=[.int .i64 l[0].1,.int .i64 l[0].2]:=by rw[e];rfl
   rw[List.drop_zero]at j;refine rB2 h j ?_;exact⟨1,(by simp_all),O,O⟩
  |succ n=>
   simp -implicitDefEqProofs[jJ,-qA,-qB,-qC,-qD,-qE,h,j,g];refine⟨O,O,n+2,⟨rfl,?_⟩,O,O⟩;have m:(n+1)*2+2=(n+1+1)*2:=O;simp[AW,lk,e,m];exact⟨rfl,rfl⟩
 ·have k:i=l.length:=O;cases i with
  |zero=>
   have:l=[]:=O3;subst this;refine rB ?_;rfl
  |succ n=>
   have g:=jjo l;refine rB1 h ?_;rw[k,BM,<-g,Ba O1];simp
end Go.Va
namespace Go.Va
def CB{α:Type}(p:α->Bool)(l:List α)(k:Nat):Prop:=(l.take k).all p=true
variable{α:Type}
theorem HJ(p:α->Bool)(l:List α):CB p l 0:=by simp[CB]
theorem Iu{p:α->Bool}{l:List α}{k:Nat}(h:k<l.length)(b:CB p l k)(a:p l[k]=true):CB p l (k+1):=by
 unfold CB at*;rw[Cr h,List.all_append,b];simp[a]
theorem HZ{p:α->Bool}{l:List α}(h:CB p l l.length):l.all p=true:=by
 unfold CB at h;rwa [BM]at h
theorem Is{p:α->Bool}{l:List α}{k:Nat}(h:k<l.length)(a:p l[k]=false):l.all p=false:=by
 rw[Bool.eq_false_iff];intro b;rw[jzy]at b;rw[b _ (AZ h)]at a;cases a
end Go.Va
namespace Go.Va
open Go.Proofs
structure Grd where
 kind:Int
 args:List Int
 deriving DecidableEq
def Grd.ds(g:Grd):List D:=[.int .i64 g.kind,AT g.args]
theorem Grd.ds_len(g:Grd):g.ds.length=2:=rfl
def Dd(l:List Grd):D:= .slice l.length (l.flatMap Grd.ds)
theorem jrs(l:List Grd)(i:Nat)(h:i<l.length):((l.flatMap Grd.ds).drop (i*2)).take 2=l[i].ds:=Ic Grd.ds_len l i h
@[simp high]theorem jbw(l:List Grd):(l.flatMap Grd.ds).length=l.length*2:=Qw Grd.ds_len l
theorem jds(l:List Grd)(i:Nat)(h:i<l.length):((l.flatMap Grd.ds).map C.d|>.drop (i*2)).take 2=[.d (.int .i64 l[i].kind),.d (AT l[i].args)]:=by
 have:=jrs l i h;rw[<-List.map_drop,<-List.map_take,this];rfl
end Go.Va
namespace Go.Va
open _root_.List renaming getElem_cons_zero → aD, getElem_cons_succ → aG, getElem_toArray → aH, take_succ_cons → aI, drop_succ_cons → aJ, drop_zero → aL, take_zero → aM, range → aN
open Go.Proofs Go.ChangeShapes Go.WideShapes Go.ChangeAt Go.RowKit
theorem jad{E:Type}{n:Nat}(i:0<n){ds:E->List D}(a: ∀e,(ds e).length=n)(l:List E)(j:Nat):(l.flatMap ds)[j]? =(l[j/n]?).bind λf=>(ds f)[j%n]? :=by
 have e:j=j/n*n+j%n:=by rw[Nat.mul_comm];exact(Nat.div_add_mod j n).symm
 have g:=Nat.mod_lt j i;have b:(l.flatMap ds)[j]? =((l.flatMap ds).drop (j/n*n))[j%n]? :=by
  rw[List.getElem?_drop];congr 1
 rw[b,jdj a];by_cases h:j/n<l.length
 ·rw[BQ h,AD h,List.flatMap_cons,List.getElem?_append_left (by rw[a];exact g)];rfl
 ·rw[List.drop_eq_nil_of_le O,B9 (l:=l) O];rfl
section
variable {H:Type} {enc:TypeId×Value->H} {w:World} {base:Nat} {sp:Nat->Bool} {hd:Bool}
theorem JI{E:Type}[Inhabited E]{n:Nat}(F:0<n){ds:E->List D}(K: ∀e,(ds e).length=n){Q:E->Prop}{T tS:TypeId}(hu:Tryz.prog.underlying tS=some (.slice T))(z:Tryz.prog.cellsOf T=n)
  (he: ∀{r:Nat} {cs:List Value} {x:DataW H×List MemPlace},cs.length=n->DataW.trod enc Tryz.prog w base sp hd r T cs=some x-> ∃f:E,Q f/\ ∀(j:Nat) (x:D) (u:Value),(ds f)[j]? =some x->cs[j]? =some u->RepD w Z0 x u)
  {r:Nat} {cs:List Value} {x:DataW H×List MemPlace} (h:DataW.trod enc Tryz.prog w base sp hd r tS cs=some x):
  ∃(l:List E) (v:Value),(∀f∈l,Q f)/\cs=[v]/\RepD w Z0 (.slice l.length (l.flatMap ds)) v:=by
 rcases Go.Deep.open_slice hu h with⟨e,_⟩|⟨a,g,cap,m,k,DD,Pl,e,_,h1,h2,h3,_,X⟩
 ·exact⟨[],_,O1,e,.snil⟩
 ·have hm:g<=m:=by rw[h3];split<;>omega
  rw[z]at X;have G: ∀i,i<m-> ∃q:E×List Value,Q q.1/\q.2.length=n/\(∀k,k<n->w.cell? ((a.add (i*n)).add k)=q.2[k]?)/\ ∀(j:Nat) (x:D) (u:Value),(ds q.1)[j]? =some x->q.2[j]? =some u->RepD w Z0 x u:=λi hi=>by
   obtain⟨cs,c1,c2⟩:=X i hi;obtain⟨_,W,c4⟩:=World.cells?_some c1;obtain⟨f,f1,f2⟩:=he W c2;exact⟨(f,cs),f1,W,c4,f2⟩
  obtain⟨q,I⟩:=Go.Deep.choose_lt G;have t:0<g->a.spot=none:=λh=>by
   obtain⟨_,Z,y,_⟩:=I 0 O;have y:=y 0 F;rw[AD O]at y;have:=y;unfold Addr.add at this;simp only[Nat.zero_mul,if_true]at this;unfold World.cell? at this;split at this
   ·split at this
    ·cases this
    ·rename_i F;simpa using F
   ·cases this
  refine⟨(aN g).map λi=>(q i).1,_,λf hf=> ?_,e,?_⟩
  ·obtain⟨i,hi,rfl⟩:=jzk.1 hf;exact(I i (by have:=List.mem_range.1 hi;omega)).1
  ·have P: ∀(j:Nat) (x:Va.D),((((aN g).map λi=>(q i).1)).flatMap ds)[j]? =some x->j/n<g/\(ds (q (j/n)).1)[j%n]? =some x:=λj x p=>by
    rw[jad F K,Bf]at p;by_cases h:j/n<g
    ·rw[List.getElem?_range h]at p;exact⟨h,by simpa using p⟩
    ·rw[B9 (by simpa using h)]at p;cases p
   rw[show((aN g).map λi=>(q i).1).length=g by simp];have J: ∀j,j/n<g->w.cell? ⟨a.block,a.off+j,none⟩=some ((q (j/n)).2.getD (j%n) .nilFunc):=λj p=>by
    obtain⟨_,Z,y,_⟩:=I (j/n) O;have M:=Nat.mod_lt j F;have y:=y (j%n) M;rw[AL,AD O];rw[AD O,Go.Deep.add_add]at y;have Y:=t (Nat.lt_of_le_of_lt (Nat.zero_le _) p);have:a.add (j/n*n+j%n)=⟨a.block,a.off+j,none⟩:=by
     rw[show j/n*n+j%n=j by rw[Nat.mul_comm];exact Nat.div_add_mod j n];unfold Addr.add;split
     ·rename_i h0;subst h0;obtain⟨b,o,s⟩:=a;simp only at Y;subst Y;rfl
     ·rfl
    rw[<-this];exact y
   refine .slice g _ a cap (λj=>(q (j/n)).2.getD (j%n) .nilFunc) (λN=> ?_) h1 h2 (λj x p=>J j (P j x p).1) (λj x p h=>h) (λj x p=> ?_)
   ·obtain⟨x,S⟩:=List.exists_mem_of_ne_nil _ N;obtain⟨j,p⟩:=List.getElem?_of_mem S;exact t (Nat.lt_of_le_of_lt (Nat.zero_le _) (P j x p).1)
   ·obtain⟨hj1,L⟩:=P j x p;obtain⟨_,Z,_,q3⟩:=I (j/n) O;refine q3 _ _ _ L ?_;rw[AL,AD (by have:=Nat.mod_lt j F;omega)];rfl
theorem some_of{α:Type}{o:Option α}{l:List α}{i:Nat}(h:o=l[i]?)(hi:i<l.length): ∃y,o=some y:=⟨l[i],by rw[h,AD hi]⟩
theorem jB0{m:Nat}{cs:List Value}{x:DataW H×List MemPlace}(z:cs.length=5)(h:DataW.trod enc Tryz.prog w base sp hd m 34 cs=some x):
  ∃f:Fct,InFact f/\ ∀(j:Nat) (x:D) (u:Value),f.ds[j]? =some x->cs[j]? =some u->RepD w Z0 x u:=by
 obtain⟨xs,n,_,_,_,_,M⟩:=DataW.trod_struct Tryz.underlying34 h;have K:Tryz.prog.cellsOf 3=1:=O4;have p:Tryz.prog.cellsOf 26=1:=O4;have r:Tryz.prog.cellsOf 32=3:=O4;have q:Tryz.prog.cellsOf 30=2:=O4;have g:Tryz.prog.cellsOf 28=1:=O4;have L:Tryz.prog.cellsOf 4=1:=O4;obtain⟨E,F,G,I,J,rfl⟩: ∃E F G I J,cs=[E,F,G,I,J]:=by
  match cs,z with
  |[E,F,G,I,J],_=>exact⟨E,F,G,I,J,rfl⟩
 have some_of: ∀{α:Type} {o:Option α} {l:List α} {i:Nat},o=l[i]? ->i<l.length-> ∃y,o=some y:=λ{α o l i} h hi=>⟨l[i],by rw[h,AD hi]⟩
 have hx3:xs.length=3:=by assumption
 obtain⟨y0,Q⟩:=some_of (M 0 _ rfl) O;obtain⟨y1,S⟩:=some_of (M 1 _ rfl) O;obtain⟨y2,T⟩:=some_of (M 2 _ rfl) O;simp only[K,p,r,aH,aD,aG,aL,aI,aM,aJ]at Q S T;obtain⟨k,e0,_,_⟩:=DataW.trod_int Tryz.underlying3 Q;obtain⟨l,u1,e1,r1⟩:=jnl S;obtain⟨ys,n2,_,_,_,N,t⟩:=DataW.trod_struct Tryz.underlying32 T;have W:ys.length=2:=N;obtain⟨z0,k0⟩:=some_of (t 0 _ rfl) O;obtain⟨z1,k1⟩:=some_of (t 1 _ rfl) O;simp only[q,g,aH,aD,aG,aL,aI,aM,aJ]at k0 k1;obtain⟨D4,u4,o4,e4,r4⟩:=jh9 k1;obtain⟨zs,n3,_,_,_,P,v⟩:=DataW.trod_struct Tryz.underlying30 k0;have X:zs.length=2:=P;obtain⟨q0,Y⟩:=some_of (v 0 _ rfl) O;obtain⟨q1,Z⟩:=some_of (v 1 _ rfl) O;simp only[L,g,aH,aD,aG,aL,aI,aM,aJ]at Y Z;obtain⟨b,e2,_⟩:=DataW.trod_bool Tryz.underlying4 Y;obtain⟨D3,u3,o3,e3,r3⟩:=jh9 Z;cases e0;cases e1;cases e2;cases e3;cases e4;refine⟨⟨k,l,b,D3,D4⟩,⟨o3,o4⟩,λj x u e a=> ?_⟩
 match j,e,a with
 |0,e,a=>cases e;cases a;exact .int _ _
 |1,e,a=>cases e;cases a;exact r1
 |2,e,a=>cases e;cases a;exact .bool _
 |3,e,a=>cases e;cases a;exact r3
 |4,e,a=>cases e;cases a;exact r4
theorem juc{b:Nat}{cs:List Value}{x:DataW H×List MemPlace}(f:cs.length=2)(h:DataW.trod enc Tryz.prog w base sp hd b 46 cs=some x):
  ∃g:Grd,True/\ ∀(j:Nat) (x:D) (u:Value),g.ds[j]? =some x->cs[j]? =some u->RepD w Z0 x u:=by
 obtain⟨F,n,_,_,_,a,t⟩:=DataW.trod_struct Tryz.underlying46 h;have z:F.length=2:=a;have p:Tryz.prog.cellsOf 3=1:=O4;have e:Tryz.prog.cellsOf 26=1:=O4;obtain⟨m,o,rfl⟩: ∃m o,cs=[m,o]:=by
  match cs,f with
  |[m,o],_=>exact⟨m,o,rfl⟩
 obtain⟨I,q⟩:=some_of (t 0 _ rfl) O;obtain⟨J,r⟩:=some_of (t 1 _ rfl) O;simp only[p,e,aH,aD,aG,aL,aI,aM,aJ]at q r;obtain⟨k,v,_,_⟩:=DataW.trod_int Tryz.underlying3 q;obtain⟨l,G,y,E⟩:=jnl r;cases v;cases y;refine⟨⟨k,l⟩,trivial,λj x u a i=> ?_⟩
 match j,a,i with
 |0,a,i=>cases a;cases i;exact .int _ _
 |1,a,i=>cases a;cases i;exact E
end
end Go.Va
namespace Go.Va
open Go.Proofs
structure Der where
 fact:Fct
 rule:Int
 frm:List Int
def Der.ds(x:Der):List D:=x.fact.ds++[.int .i64 x.rule,AT x.frm]
theorem Der.ds_len(x:Der):x.ds.length=7:=rfl
def Dh(l:List Der):D:= .slice l.length (l.flatMap Der.ds)
def Der.Mild(x:Der):Prop:=x.fact.Mild/\x.frm.length<=1000
theorem Xp(l:List Der)(i:Nat)(h:i<l.length):((l.flatMap Der.ds).drop (i*7)).take 7=l[i].ds:=Ic Der.ds_len l i h
theorem Kp(l:List Der)(i:Nat)(h:i<l.length):((l.flatMap Der.ds).map C.d|>.drop (i*7)).take 7=[.d (.int .i64 l[i].fact.kind),.d (AT l[i].fact.args),.d (.bool l[i].fact.neg),.d (Ad l[i].fact.abs),.d (Ad l[i].fact.den),.d (.int .i64 l[i].rule),.d (AT l[i].frm)]:=by
 have:=Xp l i h;rw[<-List.map_drop,<-List.map_take,this];rfl
@[simp high]theorem jmu(l:List Der):(l.flatMap Der.ds).length=l.length*7:=Qw Der.ds_len l
end Go.Va
namespace Go.Va
open _root_.ByteArray renaming empty → aD
open Int renaming natCast_add → qA, natCast_mul → qB
open Go.Proofs Go.Proofs.Tryz
def bs(l:List UInt8):ByteArray:=⟨l.toArray⟩
structure Pat where
 kind:Int
 letters:List UInt8
 n:Int
def Pat.ds(p:Pat):List D:=[.int .i64 p.kind,.str (bs p.letters),.int .i64 p.n]
theorem Pat.ds_len(p:Pat):p.ds.length=3:=rfl
def MB(l:List Pat):D:= .slice l.length (l.flatMap Pat.ds)
structure Rul where
 name:List UInt8
 prem:List Pat
 concl:List Pat
 guards:List Pat
 count:Int
 derive:D
def Rul.ds(r:Rul):List D:=[.str (bs r.name),MB r.prem,MB r.concl,MB r.guards,.int .i64 r.count,r.derive]
def Rul.zero:Rul:=⟨[],[],[],[],0,.nilFn⟩
theorem IC(n:Nat)(cs:List D):CallsF prog 266 [.c (.slice n cs)] (.u (.c (.d (.slice n cs)))):=by
 refine cO func266 rfl ?_;exact kA
def BE(s:List UInt8):Pat:=⟨2,s,0⟩
def BJ(s:List UInt8):Pat:=⟨3,s,0⟩
def Bv(s:List UInt8):Pat:=⟨4,s,0⟩
def E4(s:List UInt8):Pat:=⟨1,s,0⟩
def BA(s:List UInt8):Pat:=⟨5,s,0⟩
def C3(s:List UInt8):Pat:=⟨6,s,0⟩
def Bx(s:List UInt8):Pat:=⟨7,s,0⟩
def GR(s:List UInt8):Pat:=⟨8,s,0⟩
def Ft(s:List UInt8)(n:Int):Pat:=⟨9,s,n⟩
def BF(s:List UInt8):Pat:=⟨1,s,0⟩
def Dw(s:List UInt8):Pat:=⟨2,s,0⟩
theorem I3(s:ByteArray):CallsF prog 267 [.c (.str s)] (.u (.agg [.d (.int .i64 2),.d (.str s),.d (.int .i64 0)])):=by
 refine cO func267 rfl ?_;exact kA
theorem Jn(s:ByteArray):CallsF prog 269 [.c (.str s)] (.u (.agg [.d (.int .i64 3),.d (.str s),.d (.int .i64 0)])):=by
 refine cO func269 rfl ?_;exact kA
theorem J2(s:ByteArray):CallsF prog 273 [.c (.str s)] (.u (.agg [.d (.int .i64 4),.d (.str s),.d (.int .i64 0)])):=by
 refine cO func273 rfl ?_;exact kA
theorem J5(s:ByteArray):CallsF prog 272 [.c (.str s)] (.u (.agg [.d (.int .i64 1),.d (.str s),.d (.int .i64 0)])):=by
 refine cO func272 rfl ?_;exact kA
theorem If(s:ByteArray):CallsF prog 271 [.c (.str s)] (.u (.agg [.d (.int .i64 5),.d (.str s),.d (.int .i64 0)])):=by
 refine cO func271 rfl ?_;exact kA
theorem Jt(s:ByteArray):CallsF prog 277 [.c (.str s)] (.u (.agg [.d (.int .i64 6),.d (.str s),.d (.int .i64 0)])):=by
 refine cO func277 rfl ?_;exact kA
theorem Jd(s:ByteArray):CallsF prog 279 [.c (.str s)] (.u (.agg [.d (.int .i64 7),.d (.str s),.d (.int .i64 0)])):=by
 refine cO func279 rfl ?_;exact kA
theorem JF(s:ByteArray):CallsF prog 275 [.c (.str s)] (.u (.agg [.d (.int .i64 8),.d (.str s),.d (.int .i64 0)])):=by
 refine cO func275 rfl ?_;exact kA
theorem Jw(s:ByteArray)(n:Int):CallsF prog 274 [.c (.str s),.c (.int .i64 n)] (.u (.agg [.d (.int .i64 9),.d (.str s),.d (.int .i64 n)])):=by
 refine cO func274 rfl ?_;exact kA
theorem JD(s:ByteArray):CallsF prog 268 [.c (.str s)] (.u (.agg [.d (.int .i64 1),.d (.str s),.d (.int .i64 0)])):=by
 refine cO func268 rfl ?_;exact kA
theorem IU(s:ByteArray):CallsF prog 278 [.c (.str s)] (.u (.agg [.d (.int .i64 2),.d (.str s),.d (.int .i64 0)])):=by
 refine cO func278 rfl ?_;exact kA
def DW:Nat->Rul
 |1=>⟨[112,97,114,97,108,108,101,108],[BE [115,116],BE [115,117]],[BE [116,117]],[BF [115]],0,.nilFn⟩
 |2=>⟨[112,101,114,112,101,110,100,105,99,117,108,97,114],[BE [115,116],BJ [115,117]],[BJ [116,117]],[BF [115]],0,.nilFn⟩
 |3=>⟨[110,111,114,109,97,108,115],[BJ [115,116],BJ [115,117]],[BE [116,117]],[BF [115]],0,.nilFn⟩
 |4=>⟨[108,101,110,103,116,104,115],[],[],[],2,.fn 270 []⟩
 |5=>⟨[109,105,100,112,111,105,110,116],[BA [77,65,66]],[E4 [77,65,66],Bv [77,65,77,66],Ft [65,66,77,65] 4],[],0,.nilFn⟩
 |6=>⟨[109,105,100,108,105,110,101],[BA [77,65,66],BA [78,65,67]],[BE [77,78,66,67],Ft [66,67,77,78] 4],[],0,.nilFn⟩
 |7=>⟨[100,105,97,103,111,110,97,108,115],[BA [77,65,66],BA [77,67,68]],[BE [65,67,66,68],Bv [65,67,66,68]],[],0,.nilFn⟩
 |8=>⟨[117,110,105,113,117,101],[BA [77,65,66],BA [78,65,66]],[GR [77,78]],[],0,.nilFn⟩
 |9=>⟨[115,117,98,115,116,105,116,117,116,105,111,110],[],[],[],2,.fn 276 []⟩
 |10=>⟨[101,113,117,105,100,105,115,116,97,110,116],[Bv [80,65,80,66],Bv [81,65,81,66]],[BJ [65,66,80,81]],[],0,.nilFn⟩
 |11=>⟨[99,105,114,99,108,101],[Bv [79,65,79,66],Bv [79,65,79,67],Bv [79,65,79,68]],[C3 [65,66,67,68]],[],0,.nilFn⟩
 |12=>⟨[99,111,110,99,121,99,108,105,99],[C3 [65,66,67,68],C3 [65,66,67,69]],[C3 [65,66,68,69]],[Dw [65,66,67]],0,.nilFn⟩
 |13=>⟨[105,110,115,99,114,105,98,101,100],[C3 [65,66,67,68]],[Bx [67,65,67,66,68,65,68,66]],[],0,.nilFn⟩
 |14=>⟨[97,114,99],[Bx [67,65,67,66,68,65,68,66]],[C3 [65,66,67,68]],[],0,.nilFn⟩
 |15=>⟨[115,117,109,115],[Bx [117,115,116,118],Bx [115,119,120,116]],[Bx [117,119,120,118]],[BF [115],BF [116]],0,.nilFn⟩
 |16=>⟨[100,105,102,102,101,114,101,110,99,101,115],[Bx [115,116,117,118],Bx [115,116,119,120]],[Bx [119,117,120,118]],[BF [115],BF [116]],0,.nilFn⟩
 |17=>⟨[100,105,114,101,99,116,105,111,110,115],[Bx [115,117,118,119],BE [115,116]],[Bx [116,117,118,119]],[BF [115]],0,.nilFn⟩
 |18=>⟨[100,105,97,109,101,116,101,114],[BJ [67,65,67,66],BJ [68,65,68,66]],[C3 [65,66,67,68]],[],0,.nilFn⟩
 |19=>⟨[99,97,110,99,101,108],[Bx [115,115,116,117]],[BE [116,117]],[BF [115]],0,.nilFn⟩
 |20=>⟨[114,105,103,104,116],[Bx [115,116,117,118],BJ [115,116]],[BJ [117,118]],[BF [115],BF [116]],0,.nilFn⟩
 |21=>⟨[105,115,111,115,99,101,108,101,115],[Bv [79,65,79,66]],[Bx [79,65,65,66,65,66,79,66]],[],0,.nilFn⟩
 |22=>⟨[98,97,115,101],[Bx [79,65,65,66,65,66,79,66]],[Bv [79,65,79,66]],[Dw [79,65,66]],0,.nilFn⟩
 |23=>⟨[116,104,97,108,101,115],[BA [79,65,66],Bv [79,65,79,67]],[BJ [67,65,67,66]],[],0,.nilFn⟩
 |24=>⟨[104,121,112,111,116,101,110,117,115,101],[BA [77,65,66],BJ [67,65,67,66]],[Bv [77,65,77,67]],[],0,.nilFn⟩
 |25=>⟨[98,105,115,101,99,116,111,114],[BA [77,65,66],BJ [77,67,65,66]],[Bv [67,65,67,66]],[],0,.nilFn⟩
 |26=>⟨[115,105,100,101],[BA [77,65,66],BE [77,78,66,67],E4 [65,78,67]],[BA [78,65,67]],[Dw [65,66,67]],0,.nilFn⟩
 |27=>⟨[112,97,114,97,108,108,101,108,111,103,114,97,109],[BE [65,66,67,68],BE [65,67,66,68]],[Bv [65,66,67,68],Bv [65,67,66,68]],[Dw [65,66,67]],0,.nilFn⟩
 |28=>⟨[109,105,100,100,108,101],[E4 [77,65,66],Bv [77,65,77,66]],[BA [77,65,66]],[BF [65,66]],0,.nilFn⟩
 |_=> .zero
def Rul.res(r:Rul):R:= .u (.agg (r.ds.map .d))
theorem SX(n:Int)(h:n<10):CallsF prog 171 [.c (.int .i64 n)] (Rul.res (if 1<=n then DW n.toNat else .zero)):=by
 refine cO func171 rfl ?_;by_cases a:n=1
 rotate_left
 by_cases b:n=2
 rotate_left
 by_cases e:n=3
 rotate_left
 by_cases f:n=4
 rotate_left
 by_cases g:n=5
 rotate_left
 by_cases i:n=6
 rotate_left
 by_cases j:n=7
 rotate_left
 by_cases k:n=8
 rotate_left
 by_cases l:n=9
 rotate_left
 simp -implicitDefEqProofs[jJ,-qA,-qB,a,b,e,f,g,i,j,k,l];rw[if_neg O];simp[Rul.res,Rul.ds,Rul.zero,MB,bs,show aD=⟨#[]⟩ from rfl]
 all_goals
  subst n;simp -implicitDefEqProofs[jJ,-qA,-qB]
  repeat ((first|refine .inl ⟨_,IC _ _,?_⟩|refine .inl ⟨_,I3 _,?_⟩|refine .inl ⟨_,Jn _,?_⟩|refine .inl ⟨_,J2 _,?_⟩|refine .inl ⟨_,J5 _,?_⟩|refine .inl ⟨_,If _,?_⟩|refine .inl ⟨_,Jt _,?_⟩|refine .inl ⟨_,Jd _,?_⟩|refine .inl ⟨_,JF _,?_⟩|refine .inl ⟨_,Jw _ _,?_⟩|refine .inl ⟨_,JD _,?_⟩|refine .inl ⟨_,IU _,?_⟩);simp -implicitDefEqProofs[jJ,-qA,-qB])
  simp[Rul.res,Rul.ds,DW,MB,Pat.ds,bs,BE,BJ,Bv,E4,BA,C3,Bx,GR,Ft,BF,Dw]
theorem SA(n:Int)(h:n<19):CallsF prog 172 [.c (.int .i64 n)] (Rul.res (if 10<=n then DW n.toNat else .zero)):=by
 refine cO func172 rfl ?_;by_cases a:n=10
 rotate_left
 by_cases b:n=11
 rotate_left
 by_cases e:n=12
 rotate_left
 by_cases f:n=13
 rotate_left
 by_cases g:n=14
 rotate_left
 by_cases i:n=15
 rotate_left
 by_cases j:n=16
 rotate_left
 by_cases k:n=17
 rotate_left
 by_cases l:n=18
 rotate_left
 simp -implicitDefEqProofs[jJ,-qA,-qB,a,b,e,f,g,i,j,k,l];rw[if_neg O];simp[Rul.res,Rul.ds,Rul.zero,MB,bs,show aD=⟨#[]⟩ from rfl]
 all_goals
  subst n;simp -implicitDefEqProofs[jJ,-qA,-qB]
  repeat ((first|refine .inl ⟨_,IC _ _,?_⟩|refine .inl ⟨_,I3 _,?_⟩|refine .inl ⟨_,Jn _,?_⟩|refine .inl ⟨_,J2 _,?_⟩|refine .inl ⟨_,J5 _,?_⟩|refine .inl ⟨_,If _,?_⟩|refine .inl ⟨_,Jt _,?_⟩|refine .inl ⟨_,Jd _,?_⟩|refine .inl ⟨_,JF _,?_⟩|refine .inl ⟨_,Jw _ _,?_⟩|refine .inl ⟨_,JD _,?_⟩|refine .inl ⟨_,IU _,?_⟩);simp -implicitDefEqProofs[jJ,-qA,-qB])
  simp[Rul.res,Rul.ds,DW,MB,Pat.ds,bs,BE,BJ,Bv,E4,BA,C3,Bx,GR,Ft,BF,Dw]
theorem Vy(n:Int):CallsF prog 173 [.c (.int .i64 n)] (Rul.res (if 19<=n/\n<29 then DW n.toNat else .zero)):=by
 refine cO func173 rfl ?_;by_cases a:n=19
 rotate_left
 by_cases b:n=20
 rotate_left
 by_cases e:n=21
 rotate_left
 by_cases f:n=22
 rotate_left
 by_cases g:n=23
 rotate_left
 by_cases h:n=24
 rotate_left
 by_cases i:n=25
 rotate_left
 by_cases j:n=26
 rotate_left
 by_cases k:n=27
 rotate_left
 by_cases l:n=28
 rotate_left
 simp -implicitDefEqProofs[jJ,-qA,-qB,a,b,e,f,g,h,i,j,k,l];rw[if_neg O];simp[Rul.res,Rul.ds,Rul.zero,MB,bs,show aD=⟨#[]⟩ from rfl]
 all_goals
  subst n;simp -implicitDefEqProofs[jJ,-qA,-qB]
  repeat ((first|refine .inl ⟨_,IC _ _,?_⟩|refine .inl ⟨_,I3 _,?_⟩|refine .inl ⟨_,Jn _,?_⟩|refine .inl ⟨_,J2 _,?_⟩|refine .inl ⟨_,J5 _,?_⟩|refine .inl ⟨_,If _,?_⟩|refine .inl ⟨_,Jt _,?_⟩|refine .inl ⟨_,Jd _,?_⟩|refine .inl ⟨_,JF _,?_⟩|refine .inl ⟨_,Jw _ _,?_⟩|refine .inl ⟨_,JD _,?_⟩|refine .inl ⟨_,IU _,?_⟩);simp -implicitDefEqProofs[jJ,-qA,-qB])
  simp[Rul.res,Rul.ds,DW,MB,Pat.ds,bs,BE,BJ,Bv,E4,BA,C3,Bx,GR,Ft,BF,Dw]
def rulT(n:Int):Rul:={ DW n.toNat with count:=(DW n.toNat).count+(DW n.toNat).prem.length }
theorem Nh(n:Nat)(h:28<n):DW n= .zero:=by
 unfold DW;split<;>first|omega|rfl
theorem PX(n:Int):(if n<10 then (if 1<=n then DW n.toNat else Rul.zero) else if n<19 then (if 10<=n then DW n.toNat else .zero) else (if 19<=n/\n<29 then DW n.toNat else .zero))=DW n.toNat:=by
 by_cases b:n<10
 ·rw[if_pos b];by_cases a:1<=n
  ·rw[if_pos a]
  ·rw[if_neg a,show n.toNat=0 by omega];rfl
 rw[if_neg b];by_cases a:n<19
 ·rw[if_pos a,if_pos O]
 rw[if_neg a];by_cases e:n<29
 ·rw[if_pos ⟨O,e⟩]
 ·rw[if_neg O,Nh n.toNat O]
theorem SE(n:Nat):(DW n).count<=2/\0<=(DW n).count/\(DW n).prem.length<=3:=by
 unfold DW;split<;>simp[Rul.zero]
theorem Yz(n:Int):CallsF prog 94 [.c (.int .i64 n)] (rulT n).res:=by
 have i:=SE n.toNat;have e:=PX n;unfold rulT;generalize h:DW n.toNat=R at*;obtain⟨j,p,c,g,k,d⟩:=R;simp only at i;simp only[Rul.res,Rul.ds]at*;refine cO func94 rfl ?_;by_cases b:n<10
 ·have a:=SX n b;rw[if_pos b]at e;rw[h,e]at a;simp only[Rul.res,Rul.ds]at a;refine rA1 b ?_;refine Ac a ?_;simp -implicitDefEqProofs[jJ,-qA,-qB,MB]
  trace_state
  omega
 rw[if_neg b]at e;by_cases f:n<19
 ·have a:=SA n f;rw[if_pos f]at e;rw[h,e]at a;simp only[Rul.res,Rul.ds]at a;refine rA2 b f ?_;refine Ac a ?_;simp -implicitDefEqProofs[jJ,-qA,-qB,MB]
  trace_state
  omega
 rw[if_neg f]at e;have a:=Vy n;rw[h,e]at a;simp only[Rul.res,Rul.ds]at a;refine rA2 b f ?_;refine Ac a ?_;simp -implicitDefEqProofs[jJ,-qA,-qB,MB];omega
end Go.Va
namespace Go.Va
open Go.Proofs
structure RPat where
 kind:Int
 letters:List UInt8
 seg:Bool
 num:Int
def RPat.ds(p:RPat):List D:=[.int .i64 p.kind,.str (bs p.letters),.bool p.seg,.int .i64 p.num]
theorem RPat.ds_len(p:RPat):p.ds.length=4:=rfl
def CQ(l:List RPat):D:= .slice l.length (l.flatMap RPat.ds)
end Go.Va
namespace Go.Va
open Int renaming natCast_add → qA, natCast_mul → qB
open Go.Proofs Go.Proofs.Tryz
structure RRul where
 name:List UInt8
 frm:List RPat
 to:List RPat
 guards:List RPat
def RRul.ds(r:RRul):List D:=[.str (bs r.name),CQ r.frm,CQ r.to,CQ r.guards]
def RRul.zero:RRul:=⟨[],[],[],[]⟩
def RRul.res(r:RRul):R:= .u (.agg (r.ds.map .d))
def MW:Nat->RRul
 |1=>⟨[112,97,114,97,108,108,101,108],[⟨2,[115,116],true,0⟩,⟨2,[115,117],true,0⟩],[⟨2,[116,117],true,0⟩],[⟨1,[115],true,0⟩]⟩
 |2=>⟨[112,101,114,112,101,110,100,105,99,117,108,97,114],[⟨2,[115,116],true,0⟩,⟨3,[115,117],true,0⟩],[⟨3,[116,117],true,0⟩],[⟨1,[115],true,0⟩]⟩
 |3=>⟨[110,111,114,109,97,108,115],[⟨3,[115,116],true,0⟩,⟨3,[115,117],true,0⟩],[⟨2,[116,117],true,0⟩],[⟨1,[115],true,0⟩]⟩
 |4=>⟨[108,101,110,103,116,104,115],[⟨9,[115,116],true,0⟩,⟨9,[116,117],true,0⟩],[],[]⟩
 |5=>⟨[109,105,100,112,111,105,110,116],[⟨5,[109,97,98],false,0⟩],[⟨1,[109,97,98],false,0⟩,⟨4,[109,97,109,98],false,0⟩,⟨9,[97,98,109,97],false,4⟩],[]⟩
 |6=>⟨[109,105,100,108,105,110,101],[⟨5,[109,97,98],false,0⟩,⟨5,[110,97,99],false,0⟩],[⟨2,[109,110,98,99],false,0⟩,⟨9,[98,99,109,110],false,4⟩],[]⟩
 |7=>⟨[100,105,97,103,111,110,97,108,115],[⟨5,[109,97,98],false,0⟩,⟨5,[109,99,100],false,0⟩],[⟨2,[97,99,98,100],false,0⟩,⟨4,[97,99,98,100],false,0⟩],[]⟩
 |8=>⟨[117,110,105,113,117,101],[⟨5,[109,97,98],false,0⟩,⟨5,[110,97,98],false,0⟩],[⟨8,[109,110],false,0⟩],[]⟩
 |9=>⟨[115,117,98,115,116,105,116,117,116,105,111,110],[⟨8,[97,98],false,0⟩,⟨0,[],false,0⟩],[],[]⟩
 |10=>⟨[101,113,117,105,100,105,115,116,97,110,116],[⟨4,[112,97,112,98],false,0⟩,⟨4,[113,97,113,98],false,0⟩],[⟨3,[97,98,112,113],false,0⟩],[]⟩
 |11=>⟨[99,105,114,99,108,101],[⟨4,[111,97,111,98],false,0⟩,⟨4,[111,97,111,99],false,0⟩,⟨4,[111,97,111,100],false,0⟩],[⟨6,[97,98,99,100],false,0⟩],[]⟩
 |12=>⟨[99,111,110,99,121,99,108,105,99],[⟨6,[97,98,99,100],false,0⟩,⟨6,[97,98,99,101],false,0⟩],[⟨6,[97,98,100,101],false,0⟩],[⟨2,[97,98,99],false,0⟩]⟩
 |13=>⟨[105,110,115,99,114,105,98,101,100],[⟨6,[97,98,99,100],false,0⟩],[⟨7,[99,97,99,98,100,97,100,98],false,0⟩],[]⟩
 |14=>⟨[97,114,99],[⟨7,[99,97,99,98,100,97,100,98],false,0⟩],[⟨6,[97,98,99,100],false,0⟩],[]⟩
 |15=>⟨[115,117,109,115],[⟨7,[117,115,116,118],true,0⟩,⟨7,[115,119,120,116],true,0⟩],[⟨7,[117,119,120,118],true,0⟩],[⟨1,[115],true,0⟩,⟨1,[116],true,0⟩]⟩
 |16=>⟨[100,105,102,102,101,114,101,110,99,101,115],[⟨7,[115,116,117,118],true,0⟩,⟨7,[115,116,119,120],true,0⟩],[⟨7,[119,117,120,118],true,0⟩],[⟨1,[115],true,0⟩,⟨1,[116],true,0⟩]⟩
 |17=>⟨[100,105,114,101,99,116,105,111,110,115],[⟨7,[115,117,118,119],true,0⟩,⟨2,[115,116],true,0⟩],[⟨7,[116,117,118,119],true,0⟩],[⟨1,[115],true,0⟩]⟩
 |18=>⟨[100,105,97,109,101,116,101,114],[⟨3,[99,97,99,98],false,0⟩,⟨3,[100,97,100,98],false,0⟩],[⟨6,[97,98,99,100],false,0⟩],[]⟩
 |19=>⟨[99,97,110,99,101,108],[⟨7,[115,115,116,117],true,0⟩],[⟨2,[116,117],true,0⟩],[⟨1,[115],true,0⟩]⟩
 |20=>⟨[114,105,103,104,116],[⟨7,[115,116,117,118],true,0⟩,⟨3,[115,116],true,0⟩],[⟨3,[117,118],true,0⟩],[⟨1,[115],true,0⟩,⟨1,[116],true,0⟩]⟩
 |21=>⟨[105,115,111,115,99,101,108,101,115],[⟨4,[111,97,111,98],false,0⟩],[⟨7,[111,97,97,98,97,98,111,98],false,0⟩],[]⟩
 |22=>⟨[98,97,115,101],[⟨7,[111,97,97,98,97,98,111,98],false,0⟩],[⟨4,[111,97,111,98],false,0⟩],[⟨2,[111,97,98],false,0⟩]⟩
 |23=>⟨[116,104,97,108,101,115],[⟨5,[111,97,98],false,0⟩,⟨4,[111,97,111,99],false,0⟩],[⟨3,[99,97,99,98],false,0⟩],[]⟩
 |24=>⟨[104,121,112,111,116,101,110,117,115,101],[⟨5,[109,97,98],false,0⟩,⟨3,[99,97,99,98],false,0⟩],[⟨4,[109,97,109,99],false,0⟩],[]⟩
 |25=>⟨[98,105,115,101,99,116,111,114],[⟨5,[109,97,98],false,0⟩,⟨3,[109,99,97,98],false,0⟩],[⟨4,[99,97,99,98],false,0⟩],[]⟩
 |26=>⟨[115,105,100,101],[⟨5,[109,97,98],false,0⟩,⟨2,[109,110,98,99],false,0⟩,⟨1,[97,110,99],false,0⟩],[⟨5,[110,97,99],false,0⟩],[⟨2,[97,98,99],false,0⟩]⟩
 |27=>⟨[112,97,114,97,108,108,101,108,111,103,114,97,109],[⟨2,[97,98,99,100],false,0⟩,⟨2,[97,99,98,100],false,0⟩],[⟨4,[97,98,99,100],false,0⟩,⟨4,[97,99,98,100],false,0⟩],[⟨2,[97,98,99],false,0⟩]⟩
 |28=>⟨[109,105,100,100,108,101],[⟨1,[109,97,98],false,0⟩,⟨4,[109,97,109,98],false,0⟩],[⟨5,[109,97,98],false,0⟩],[⟨1,[97,98],false,0⟩]⟩
 |_=> .zero
theorem FH(k:Int)(s:ByteArray):CallsF prog 302 [.c (.int .i64 k),.c (.str s)] (.u (.agg [.d (.int .i64 k),.d (.str s),.d (.bool true),.d (.int .i64 0)])):=by
 refine cO func302 rfl ?_;simp -implicitDefEqProofs[jJ,-qA,-qB]
theorem FJ(k:Int)(s:ByteArray):CallsF prog 303 [.c (.int .i64 k),.c (.str s)] (.u (.agg [.d (.int .i64 k),.d (.str s),.d (.bool false),.d (.int .i64 0)])):=by
 refine cO func303 rfl ?_;simp -implicitDefEqProofs[jJ,-qA,-qB]
theorem U3(s:ByteArray):CallsF prog 304 [.c (.str s)] (.u (.agg [.d (.int .i64 9),.d (.str s),.d (.bool false),.d (.int .i64 4)])):=by
 refine cO func304 rfl ?_;simp -implicitDefEqProofs[jJ,-qA,-qB]
theorem jon(n:Int):CallsF prog 202 [.c (.int .i64 n)] (RRul.res (if 1<=n/\n<=14 then MW n.toNat else .zero)):=by
 refine cO func202 rfl ?_;simp -implicitDefEqProofs[jJ,-qA,-qB]
 repeat ((first|refine .inl ⟨_,FH _ _,?_⟩|refine .inl ⟨_,FJ _ _,?_⟩);simp -implicitDefEqProofs[jJ,-qA,-qB])
 by_cases h:n=1
 rotate_left
 by_cases i:n=2
 rotate_left
 by_cases j:n=3
 rotate_left
 by_cases k:n=4
 rotate_left
 by_cases l:n=5
 rotate_left
 by_cases m:n=6
 rotate_left
 by_cases o:n=7
 rotate_left
 by_cases p:n=8
 rotate_left
 by_cases q:n=9
 rotate_left
 by_cases a:n=10
 rotate_left
 by_cases b:n=11
 rotate_left
 by_cases e:n=12
 rotate_left
 by_cases f:n=13
 rotate_left
 by_cases g:n=14
 rotate_left
 have r: ¬(1<=n/\n<=14):=O;rw[if_neg r];simp -implicitDefEqProofs[jJ,-qA,-qB,h,i,j,k,l,m,o,p,q,a,b,e,f,g]
 try simp[RRul.res,RRul.ds,RRul.zero,CQ,bs]
 try rfl
 all_goals
  subst n;simp -implicitDefEqProofs[jJ,-qA,-qB]
  repeat ((first|refine .inl ⟨_,FH _ _,?_⟩|refine .inl ⟨_,FJ _ _,?_⟩|refine .inl ⟨_,U3 _,?_⟩);simp -implicitDefEqProofs[jJ,-qA,-qB])
  try simp[RRul.res,RRul.ds,MW,CQ,RPat.ds,bs]
  try rfl
end Go.Va
