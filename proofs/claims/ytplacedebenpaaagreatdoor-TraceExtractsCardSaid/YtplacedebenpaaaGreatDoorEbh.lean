/- a part of the proof -/
import Derived.Test.YtplacedebenpaaaGreatDoorEbg
import Derived.Test.YtplacedebenpaaaGreatDoorEbf
import Derived.Test.YtplacedebenpaaaGreatDoorEbd
set_option linter.all false
set_option maxHeartbeats 4000000
set_option maxRecDepth 100000
namespace Go.Va
open Go.Proofs Go.Proofs.Tryz
theorem jkY(k:Int)(g:k=1\/k=6\/k=8)(l:List Int)(n:Bool)(m d:List Nat)(b:Eb ⟨k,l,n,m,d⟩=true)(a:(Fct.mk k l n m d).Mild)(h:l.length<=8):
  CallsF prog 301 [.agg [.int .i64 k,AT l,.bool n,Ad m,Ad d]] (.u (.c (.d (C1 (Mq k l.length [] l))))):=by
 have e:=XP ⟨k,l,n,m,d⟩ a;rw[b]at e;have f:=jqN k O l.length [] l rfl (by simpa using h);rw[show AT ([]:List Int)=D.slice 0 [] from rfl]at f;clear b a;simp only[Fct.ds]at*;refine oA func301 ?_;refine Ac e ?_;rcases g with rfl|rfl|rfl<;>refine rA ?_<;>refine Ac f ?_<;>exact kA
theorem jv1(l:List Int)(f:l.length=8)(b:Eb ⟨7,l,false,[],[]⟩=true)(a:(Fct.mk 7 l false [] []).Mild):
  CallsF prog 301 [.agg [.int .i64 7,AT l,.bool false,Ad [],Ad []]] (.u (.c (.d (C1 (OD l 8))))):=by
 have e:=XP ⟨7,l,false,[],[]⟩ a;rw[b]at e;have g:=jtA l f;clear b a;simp only[Fct.ds]at*;refine oA func301 ?_;refine aA e ?_;refine Ac g ?_;exact kA
theorem jBN(a b c:Int)(j:Eb ⟨5,[a,b,c],false,[],[]⟩=true)(i:(Fct.mk 5 [a,b,c] false [] []).Mild):
  CallsF prog 301 [.agg [.int .i64 5,AT [a,b,c],.bool false,Ad [],Ad []]] (.u (.c (.d (C1 (Dc [] [⟨5,[a,b,c],false,[],[]⟩,⟨5,[a,c,b],false,[],[]⟩]))))):=by
 have k:=XP ⟨5,[a,b,c],false,[],[]⟩ i;rw[j]at k;have f:(Fct.mk 5 [a,b,c] false [] []).Mild:=jid 5 [a,b,c] O1;have l:(Fct.mk 5 [a,c,b] false [] []).Mild:=jid 5 [a,c,b] O1;have g:(Fct.mk 5 [a,b,c] false [] []).Val:=λh=>absurd h O1;have m:(Fct.mk 5 [a,c,b] false [] []).Val:=λh=>absurd h O1;have o:=jlk ⟨5,[a,b,c],false,[],[]⟩ [a,b,c] O1;have p:=jlk ⟨5,[a,b,c],false,[],[]⟩ [a,c,b] O1;have e:=jal ⟨5,[a,b,c],false,[],[]⟩ [] f g O1 O1 O1;have q:=jal ⟨5,[a,c,b],false,[],[]⟩ [⟨5,[a,b,c],false,[],[]⟩] l m (by simpa using f) (by simpa using g) O1;rw[show putF [] (Fct.mk 5 [a,b,c] false [] [])=[⟨5,[a,b,c],false,[],[]⟩] from rfl]at e;rw[show Dc [] [Fct.mk 5 [a,b,c] false [] [],⟨5,[a,c,b],false,[],[]⟩]=putF [⟨5,[a,b,c],false,[],[]⟩] ⟨5,[a,c,b],false,[],[]⟩ from rfl];rw[show C1 []=D.slice 0 [] from rfl]at e;generalize putF [Fct.mk 5 [a,b,c] false [] []] ⟨5,[a,c,b],false,[],[]⟩=R at*;generalize [Fct.mk 5 [a,b,c] false [] []]=Q at*;clear j i f l g m;simp only[Fct.ds,Fct.res]at*;refine oA func301 ?_;refine aA k ?_;refine AA (Ah [0,0,2,6,0,16,48,0,128,384,1022,2047,4095,8191]) [.any [] [37] (AG [37] [[1],[3],[28],[29],[3],[31],[32],[3],[34],[35]]++[⟨4,[30,33,36],[],[],[]⟩]),.one,.one,.one] O5 ?_;refine rD ?_;refine aA o ?_;refine aA e ?_;refine AA (Ah [0,0,0,4,12,0,32,96,0,256,768,2044,4094,8191,16383]) [.any [] [51] (AG [51] [[4],[1],[3],[42],[43],[3],[45],[46],[3],[48],[49]]++[⟨4,[44,47,50],[],[],[]⟩]++[⟨0,[41,51],[],[],[]⟩]),.one,.one] O5 ?_;refine rD ?_;refine aA p ?_;refine Ac q ?_;exact kA
end Go.Va
namespace Go.Va
open _root_.List renaming mem_range → aD, mem_flatten → aG, range → aH, map_map → aI
open Go.Proofs
theorem jff: ∀(Ls:List (List Fct)) (A:List Fct),Ls.foldl Dc A=Dc A Ls.flatten
 |[],A=>rfl
 |L::Ls,A=>by
  rw[List.foldl_cons,jff Ls,List.flatten_cons];unfold Dc;rw[List.foldl_append]
def TL(f:Fct)(A:List FE):Prop:= ∀g∈A,okS f.args.length g=true/\(g.2=true->f.kind=9/\val f.abs≠0)
theorem jdi{f:Fct}(h:f.Rt){A:List FE}(a:TL f A): ∀x∈A.map (Mb f),x.Rt:=λx e=>by
 obtain⟨g,b,rfl⟩:=jzk.1 e;exact jx5 h (a g b).1 (a g b).2
theorem jcq{f:Fct}(h:f.Rt){A:List FE}(a:TL f A)(x:Fct):x∈varL f A↔x∈A.map (Mb f):=by
 unfold varL;rw[jja O1 (jdi h a)];simp
theorem jAC{f:Fct}(h:f.Rt){A:List FE}(e:TL f A):(varL f A).Pairwise (λa b=>C2 a b<0):=jmN O1 (jdi h e) List.Pairwise.nil
theorem jtY{f:Fct}(h:f.Rt){A:List FE}(e:TL f A){L:List Fct}(i: ∀x,x∈L↔x∈A.map (Mb f))(j:L.Pairwise (λa b=>C2 a b<0)):L=varL f A:=
 jxH (λx g=>jdi h e x ((i x).1 g)) (λx g=>jdi h e x ((jcq h e x).1 g)) j (jAC h e) λx=>by rw[i,jcq h e]
def A2:List FE:=[([0,1,2,3],false),([2,3,0,1],false),([1,0,2,3],false),([2,3,1,0],false),([0,1,3,2],false),([3,2,0,1],false),([1,0,3,2],false),([3,2,1,0],false)]
theorem jmn(k:Int)(n:Bool)(m d:List Nat)(a b c e:Int):SI (QA k n m d m d a b c e) 4=varL ⟨k,[a,b,c,e],n,m,d⟩ A2:=by
 unfold SI varL;rw[jff];rfl
def A5:List FE:=[([0,1,2],false),([0,2,1],false)]
theorem jvp(a b c:Int):Dc [] [⟨5,[a,b,c],false,[],[]⟩,⟨5,[a,c,b],false,[],[]⟩]=varL ⟨5,[a,b,c],false,[],[]⟩ A5:=rfl
def jyv:List Int:=[0,1,2,3,4,5,6,7]
def A7:List FE:=((aH 8).map λt=>(aH 16).map λs=>(SK jyv t s 4,false)).flatten
theorem jBG(l:List Int):OD l 8=varL ⟨7,l,false,[],[]⟩ A7:=by
 unfold OD varL A7;rw[jff,List.map_flatten,aI];congr 2
def UE:Nat->List Int->List Int->List (List Int)
 |0,d,_=>[d]
 |n+1,d,r=>((aH (n+1)).map λi=>UE n (d++[r.getD i 0]) (r.take i++r.drop (i+1))).flatten
theorem jpE(k:Int): ∀(n:Nat) (d r:List Int),(∀p∈UE n d r,(Fct.mk k p false [] []).Rt)->(∀x,x∈Mq k n d r↔ ∃p∈UE n d r,x=⟨k,p,false,[],[]⟩)/\(Mq k n d r).Pairwise (λa b=>C2 a b<0)
 |0,d,r,_=>by simp[Mq,UE]
 |n+1,d,r,h=>by
  have l: ∀i,i<n+1-> ∀p∈UE n (d++[r.getD i 0]) (r.take i++r.drop (i+1)),p∈UE (n+1) d r:=λi hi p f=>by
   rw[UE,aG];exact⟨_,jzk.2 ⟨i,aD.2 hi,rfl⟩,f⟩
  have m:=λi (hi:i<n+1)=>jpE k n (d++[r.getD i 0]) (r.take i++r.drop (i+1)) (λp f=>h p (l i hi p f));have g: ∀x∈((aH (n+1)).map λi=>Mq k n (d++[r.getD i 0]) (r.take i++r.drop (i+1))).flatten,x.Rt:=λx j=>by
   obtain⟨L,o,j⟩:=aG.1 j;obtain⟨i,hi,rfl⟩:=jzk.1 o;have hi:=aD.1 hi;obtain⟨p,f,rfl⟩:=((m i hi).1 x).1 j;exact h p (l i hi p f)
  rw[jf6,jff];refine⟨λx=> ?_,jmN O1 g List.Pairwise.nil⟩;rw[jja O1 g,UE];simp only[E8,false_or,aG,jzk];constructor
  ·rintro⟨L,⟨i,hi,rfl⟩,j⟩;obtain⟨p,f,e⟩:=((m i (aD.1 hi)).1 x).1 j;exact⟨p,⟨_,⟨i,hi,rfl⟩,f⟩,e⟩
  ·rintro⟨p,⟨L,⟨i,hi,rfl⟩,f⟩,e⟩;exact⟨_,⟨i,hi,rfl⟩,((m i (aD.1 hi)).1 x).2 ⟨p,f,e⟩⟩
def AP(n:Nat):List FE:=(UE n [] (jsS n).1).map λp=>(p,false)
theorem jlp{k:Int}{l:List Int}(h:(Fct.mk k l false [] []).Rt)(e:TL ⟨k,l,false,[],[]⟩ (AP l.length))
  (a:UE l.length [] l=(UE l.length [] (jsS l.length).1).map (List.map (Qk l))):Mq k l.length [] l=varL ⟨k,l,false,[],[]⟩ (AP l.length):=by
 have f: ∀x:Fct,(∃p∈UE l.length [] l,x=⟨k,p,false,[],[]⟩)↔x∈(AP l.length).map (Mb ⟨k,l,false,[],[]⟩):=λx=>by
  rw[a];unfold AP;rw[aI];simp only[jzk,Function.comp];constructor
  ·rintro⟨p,⟨q,b,rfl⟩,rfl⟩;exact⟨q,b,rfl⟩
  ·rintro⟨q,b,rfl⟩;exact⟨_,⟨q,b,rfl⟩,rfl⟩
 have s:=jpE k l.length [] l (λp a=>jdi h e _ ((f _).1 ⟨p,a,rfl⟩));exact jtY h e (λx=>by rw[s.1 x,f x]) s.2
theorem Ty{f:Fct}{A:List FE}{n:Nat}(h:f.args.length=n)(b:(A.all λg=>okS n g&& !g.2)=true):TL f A:=λg e=>by
 have:=jzy.1 b g e;simp only[AR,Bool.not_eq_true']at this;exact⟨h ▸ this.1,λa=>by rw[this.2]at a;cases a⟩
theorem jy9{k:Int}(h:arity k≠0):k=1\/k=2\/k=3\/k=4\/k=5\/k=6\/k=7\/k=8\/k=9:=by
 unfold arity at h;by_cases a:k=1\/k=5
 ·omega
 rw[if_neg a]at h;by_cases b:k=2\/k=3\/k=4\/k=6\/k=9
 ·omega
 rw[if_neg b]at h;by_cases e:k=7
 ·omega
 rw[if_neg e]at h;by_cases f:k=8
 ·omega
 rw[if_neg f]at h;exact absurd rfl h
theorem jAJ(f:Fct)(h:f.Rt)(p:f.kind≠9): ∃A:List FE,TL f A/\(f.kind=1\/f.kind=6\/f.kind=8->A=AP f.args.length)/\(f.kind=5->A=A5)/\(f.kind=7->A=A7)/\(f.kind=2\/f.kind=3\/f.kind=4->A=A2)/\
  CallsF Tryz.prog 301 [.agg f.ds] (.u (.c (.d (C1 (varL f A))))):=by
 obtain⟨q,g,v,o⟩:=h.parts;obtain⟨k,l,n,m,d⟩:=f;simp only at q g v o p;have w:=jy9 q;rw[if_neg p]at o;obtain⟨rfl,rfl,rfl⟩:=o;rcases w with rfl|rfl|rfl|rfl|rfl|rfl|rfl|rfl|rfl
 ·obtain⟨a,b,c,rfl⟩:=RA (by simpa [arity]using g);have i:TL ⟨1,[a,b,c],false,[],[]⟩ (AP 3):=Ty (n:=3) rfl O6;refine⟨AP 3,i,λ_=>rfl,O1,O1,O1,?_⟩;have e:=jlp h i rfl;have r:=jkY 1 O [a,b,c] false [] [] h.ok h.mild O1;rw[e]at r;exact r
 ·obtain⟨a,b,c,e,rfl⟩:=KQ (by simpa [arity]using g);refine⟨A2,Ty (n:=4) rfl O6,O1,O1,O1,λ_=>rfl,?_⟩;rw[<-jmn];exact jjk 2 O a b c e false [] [] h.ok h.mild
 ·obtain⟨a,b,c,e,rfl⟩:=KQ (by simpa [arity]using g);refine⟨A2,Ty (n:=4) rfl O6,O1,O1,O1,λ_=>rfl,?_⟩;rw[<-jmn];exact jjk 3 O a b c e false [] [] h.ok h.mild
 ·obtain⟨a,b,c,e,rfl⟩:=KQ (by simpa [arity]using g);refine⟨A2,Ty (n:=4) rfl O6,O1,O1,O1,λ_=>rfl,?_⟩;rw[<-jmn];exact jjk 4 O a b c e false [] [] h.ok h.mild
 ·obtain⟨a,b,c,rfl⟩:=RA (by simpa [arity]using g);refine⟨A5,Ty (n:=3) rfl O6,O1,λ_=>rfl,O1,O1,?_⟩;rw[<-jvp];exact jBN a b c h.ok h.mild
 ·obtain⟨a,b,c,e,rfl⟩:=KQ (by simpa [arity]using g);have i:TL ⟨6,[a,b,c,e],false,[],[]⟩ (AP 4):=Ty (n:=4) rfl O6;refine⟨AP 4,i,λ_=>rfl,O1,O1,O1,?_⟩;have j:=jlp h i rfl;have r:=jkY 6 O [a,b,c,e] false [] [] h.ok h.mild O1;rw[j]at r;exact r
 ·have t:l.length=8:=by simpa [arity]using g
  refine⟨A7,Ty t O6,O1,O1,λ_=>rfl,O1,?_⟩;rw[<-jBG];exact jv1 l t h.ok h.mild
 ·obtain⟨a,b,rfl⟩: ∃a b,l=[a,b]:=by
   match l,(by simpa [arity]using g:l.length=2)with
   |[a,b],_=>exact⟨a,b,rfl⟩
  have i:TL ⟨8,[a,b],false,[],[]⟩ (AP 2):=Ty (n:=2) rfl O6;refine⟨AP 2,i,λ_=>rfl,O1,O1,O1,?_⟩;have j:=jlp h i rfl;have r:=jkY 8 O [a,b] false [] [] h.ok h.mild O1;rw[j]at r;exact r
 ·exact absurd rfl p
end Go.Va
namespace Go.Va
open _root_.Bool renaming not_eq_true' → aD, false_eq_true → aI
open _root_.List renaming mem_flatMap → aG, map_map → aJ, map → aL
open _root_.Prod renaming fst → aH
def linesR(f:Fct):List (List Int):=
 if f.kind=2 then
  let s:=atomN (f.args.getD 0 0) (f.args.getD 1 0);let t:=atomN (f.args.getD 2 0) (f.args.getD 3 0)
  [[s,t],[t,s]]
 else if f.kind=1 then
  let s:=atomN (f.args.getD 0 0) (f.args.getD 1 0);let t:=atomN (f.args.getD 0 0) (f.args.getD 2 0);let u:=atomN (f.args.getD 1 0) (f.args.getD 2 0)
  [[s,t],[t,s],[s,u],[u,s],[t,u],[u,t]]
 else []
def Rz(f:Fct)(k:Int):List (List Int):=
 if k=2 then linesR f else if f.kind≠k then [] else
  let s:=atomN (f.args.getD 0 0) (f.args.getD 1 0);let t:=atomN (f.args.getD 2 0) (f.args.getD 3 0)
  if k≠7 then [[s,t],[t,s]] else
  let u:=atomN (f.args.getD 4 0) (f.args.getD 5 0);let v:=atomN (f.args.getD 6 0) (f.args.getD 7 0)
  [[s,t,u,v],[s,u,t,v],[v,t,u,s],[v,u,t,s],[t,s,v,u],[t,v,s,u],[u,s,v,t],[u,v,s,t]]
def Vc(l:List Int):List (List Int):=
 let a:=l.getD 0 0/40;let b:=l.getD 0 0%40;let c:=l.getD 1 0/40;let d:=l.getD 1 0%40
 [[a,b,c,d],[b,a,c,d],[a,b,d,c],[b,a,d,c]]
def Na(f:Fct):List FE:=if f.kind=1\/f.kind=6\/f.kind=8 then AP f.args.length else if f.kind=5 then A5 else if f.kind=7 then A7 else A2
def ptsR(f:Fct)(k:Int):List (List Int):=
 if k=2 then (linesR f).flatMap Vc else if f.kind≠k then [] else (varL f (Na f)).map Fct.args
def R6(q:RPat)(f:Fct):List (List Int):=if q.seg then Rz f q.kind else ptsR f q.kind
def Lr(sg:Bool)(p:Pat):RPat:=⟨p.kind,p.letters.map (UA sg),sg,p.n⟩
def US(sg:Bool)(p:Pat):Bool:=p.letters.all (λc=>decide (FD sg c))&&
 (if p.kind=1 then !sg&&decide (p.letters.length=3) else if p.kind=6 then !sg&&decide (p.letters.length=4) else if p.kind=8 then !sg&&decide (p.letters.length=2)
 else if p.kind=5 then !sg&&decide (p.letters.length=3) else if p.kind=7 then decide (p.letters.length=if sg then 4 else 8)
 else (decide (p.kind=2)||decide (p.kind=3)||decide (p.kind=4))&&decide (p.letters.length=if sg then 2 else 4))
def Yn(x y:List (List Int)):Bool:=x.all λw=>y.contains w
variable{I:List (List (Int×Int))}{k a:Int}{ls:List UInt8}
theorem jqq{x y:List (List Int)}(h:Yn x y=true){w:List Int}(a:w∈x):w∈y:=by
 grind[Yn]
theorem jrC{f:Fct}{A:List FE}(h:Yn (A.map aH) (I.flatMap Lb)=true)(i:Yn (I.flatMap Lb) (A.map aH)=true)(v:List Int):
  v∈(A.map (Mb f)).map Fct.args↔ ∃X∈I,v∈Lb (X.map λp=>(Qk f.args p.1,Qk f.args p.2)):=by
 rw[aJ];simp only[jzk,Function.comp_apply];constructor
 ·rintro⟨g,e,rfl⟩;obtain⟨X,b,a⟩:=aG.1 (jqq h (jzk.2 ⟨g,e,rfl⟩));refine⟨X,b,?_⟩;rw[jkC];exact jzk.2 ⟨g.1,a,rfl⟩
 ·rintro⟨X,b,a⟩;rw[jkC]at a;obtain⟨w,j,rfl⟩:=jzk.1 a;obtain⟨g,e,rfl⟩:=jzk.1 (jqq i (aG.2 ⟨X,b,j⟩));exact⟨g,e,rfl⟩
def I2:List (List (Int×Int)):=[[(0,1),(2,3)],[(2,3),(0,1)]]
def I7:List (List (Int×Int)):=[[(0,1),(2,3),(4,5),(6,7)],[(0,1),(4,5),(2,3),(6,7)],[(6,7),(2,3),(4,5),(0,1)],[(6,7),(4,5),(2,3),(0,1)],[(2,3),(0,1),(6,7),(4,5)],[(2,3),(6,7),(0,1),(4,5)],[(4,5),(0,1),(6,7),(2,3)],[(4,5),(6,7),(0,1),(2,3)]]
theorem I2_A2:Yn (A2.map aH) (I2.flatMap Lb)=true/\Yn (I2.flatMap Lb) (A2.map aH)=true:=O6
theorem I7_A7:Yn (A7.map aH) (I7.flatMap Lb)=true/\Yn (I7.flatMap Lb) (A7.map aH)=true:=O6
theorem jod{f:Fct}(b: ∀c∈ls,FD false c)(i: ∀X∈I,ls.length=2*X.length)(g:rdg k f=I.map λX=>X.map λp=>AQ (Qk f.args p.1) (Qk f.args p.2))(v:List Int):
  (∃X∈I,v∈Lb (X.map λp=>(Qk f.args p.1,Qk f.args p.2)))↔ ∃a∈(rdg k f).flatMap (FM ls),vals false a=v:=by
 rw[g];have e: ∀X:List (Int×Int),(X.map λp=>AQ (Qk f.args p.1) (Qk f.args p.2))=(X.map λp=>(Qk f.args p.1,Qk f.args p.2)).map λp=>AQ p.1 p.2:=O1;have h: ∀X∈I,(v∈Lb (X.map λp=>(Qk f.args p.1,Qk f.args p.2))↔ ∃a∈FM ls (X.map λp=>AQ (Qk f.args p.1) (Qk f.args p.2)),vals false a=v):=λX j=>by
  rw[jjA _ ls b O3,e,jy7]
 grind
theorem jtX(s t:Int×Int)(h:0<=s.2/\s.2<40)(i:0<=t.2/\t.2<40)(v:List Int):v∈Vc [s.1*40+s.2,t.1*40+t.2]↔v∈Lb [s,t]:=by
 have b:(s.1*40+s.2)/40=s.1:=O;have e:(s.1*40+s.2)%40=s.2:=O;have f:(t.1*40+t.2)/40=t.1:=O;have g:(t.1*40+t.2)%40=t.2:=O;have a:Lb [s,t]=[[s.1,s.2,t.1,t.2],[s.1,s.2,t.2,t.1],[s.2,s.1,t.1,t.2],[s.2,s.1,t.2,t.1]]:=rfl;rw[a];unfold Vc;grind
theorem Wi(a b:Int):atomN a b=(AQ a b).1*40+(AQ a b).2:=rfl
theorem jnU{f:Fct}(j:f.Rt)(v:List Int):v∈linesR f↔v∈(rdg 2 f).map (aL λs=>s.1*40+s.2):=by
 obtain⟨l,h,m,o⟩:=j.parts;unfold linesR rdg;by_cases g:f.kind=2
 ·obtain⟨a,b,c,d,i⟩:=KQ (by rw[h,g];rfl:f.args.length=4);have k:Hg f.args=[AQ a b,AQ c d]:=by rw[i];rfl
  simp_all[if_pos,if_neg,Wi]
 ·rw[if_neg g];by_cases e:f.kind=1
  ·rw[if_pos e,if_pos ⟨rfl,e⟩];simp only[Wi,List.map_cons,List.map_nil,jzn,E8,or_false];grind
  grind
theorem jrl{f:Fct}(r:f.Rt)(t:k=3\/k=4\/k=7):Rz f k=(rdg k f).map (aL λs=>s.1*40+s.2):=by
 obtain⟨v,l,w,x⟩:=r.parts;unfold Rz rdg;rw[if_neg O,if_neg (show ¬(k=2/\f.kind=1) by omega)];by_cases e:f.kind=k
 ·rw[if_neg (show ¬f.kind≠k by simp[e]),if_neg (show ¬f.kind≠k by simp[e])];by_cases j:k=7
  ·obtain⟨a,b,c,d,m,o,p,q,i⟩:=VH (by rw[l,e,j];rfl:f.args.length=8);have g:Hg f.args=[AQ a b,AQ c d,AQ m o,AQ p q]:=by rw[i];rfl
   rw[g,i];simp[j,Wi]
  ·obtain⟨a,b,c,d,i⟩:=KQ (by rw[l,e];rcases t with h|h|h<;>first|exact absurd h j|(rw[h];rfl):f.args.length=4);have g:Hg f.args=[AQ a b,AQ c d]:=by rw[i];rfl
   rw[g,i];simp[j,Wi]
 ·rw[if_pos e,if_pos e];rfl
theorem jrG{f:Fct}(b:f.Rt)(e:k=2\/k=3\/k=4): ∀L∈rdg k f,L.length=2:=λL a=>by
 obtain⟨u,v,rfl⟩:=jiY k f e b L a;rfl
theorem jyf{f:Fct}(b:f.Rt): ∀L∈rdg 7 f,L.length=4:=λL a=>by
 obtain⟨u,v,w,z,rfl⟩:=jsK f b L a;rfl
theorem VF{b:Int}(e:0<=a/\a<40)(f:0<=b/\b<40):(0<=(AQ a b).1/\(AQ a b).1<40)/\(0<=(AQ a b).2/\(AQ a b).2<40):=by
 grind[AQ,lo,hi]
theorem jsW: ∀(l:List Int),(∀a∈l,0<=a/\a<40)-> ∀s∈Hg l,(0<=s.1/\s.1<40)/\(0<=s.2/\s.2<40)
 |[],_=>by simp[Hg]
 |[a],_=>by simp[Hg]
 |a::b::l,h=>by
  intro s hs;rw[Hg,jzn]at hs;rcases hs with rfl|hs
  ·simp_all[VF]
  ·exact jsW l O3 s hs
theorem jhE{f:Fct}(a:f.Rt)(i:Nat):0<=f.args.getD i 0/\f.args.getD i 0<40:=by
 rcases Nat.lt_or_ge i f.args.length with h|h
 ·rw[VZ _ h];exact a.parts.2.2.1 _ O1
 grind
theorem jpC(k:Int)(f:Fct)(g:f.Rt): ∀l∈rdg k f,∀s∈l,(0<=s.1/\s.1<40)/\(0<=s.2/\s.2<40):=by
 have b:=jhE g;have h:=jsW f.args g.parts.2.2.1;intro l a s i;unfold rdg at a;split at a
 ·have j:=VF (b 0) (b 1);have m:=VF (b 0) (b 2);have o:=VF (b 1) (b 2);simp only[jzn,E8,or_false]at a;grind
 ·split at a
  ·cases a
  ·split at a
   ·grind
   ·rename_i u v w z e;rw[e]at h;simp only[jzn,E8,or_false]at a h;rcases a with rfl|rfl|rfl|rfl|rfl|rfl|rfl|rfl<;>(grind)
   ·cases a
theorem jAh{l:List Int}(h:(Fct.mk k l false [] []).Rt)(hl:l.length=2\/l.length=3\/l.length=4)(v:List Int):v∈(varL ⟨k,l,false,[],[]⟩ (AP l.length)).map Fct.args↔v∈jg7 l.length l:=by
 have e: ∀{A:List FE} {P:List (List Int)},TL ⟨k,l,false,[],[]⟩ A->(A.map (Mb ⟨k,l,false,[],[]⟩)).map Fct.args=P->(v∈(varL ⟨k,l,false,[],[]⟩ A).map Fct.args↔v∈P):=by
  rintro A P f rfl;grind[jcq]
 rcases hl with hl|hl|hl
 ·obtain⟨a,b,rfl⟩: ∃a b,l=[a,b]:=by
   match l,hl with
   |[a,b],_=>simp
  exact e (A:=AP 2) (Ty (n:=2) rfl O6) rfl
 ·obtain⟨a,b,c,rfl⟩:=RA hl;exact e (A:=AP 3) (Ty (n:=3) rfl O6) rfl
 ·obtain⟨a,b,c,d,rfl⟩:=KQ hl;exact e (A:=AP 4) (Ty (n:=4) rfl O6) rfl
theorem jwT{b:Int}(f:Fct)(a:k=1\/k=6\/k=8):T4 ⟨k,ls,b⟩ f=if f.kind=k then VA ls f.args else []:=by
 unfold T4;rw[if_pos a]
theorem jwB(f:Fct):T4 ⟨5,ls,a⟩ f=if f.kind=5 then [[(ls.getD 0 0,(f.args.getD 0 0+1,0)),(ls.getD 1 0,(f.args.getD 1 0+1,0)),(ls.getD 2 0,(f.args.getD 2 0+1,0))],[(ls.getD 0 0,(f.args.getD 0 0+1,0)),(ls.getD 1 0,(f.args.getD 2 0+1,0)),(ls.getD 2 0,(f.args.getD 1 0+1,0))]] else []:=by
 rfl
theorem jne(f:Fct)(e: ¬(k=1\/k=6\/k=8))(b:k≠5):T4 ⟨k,ls,a⟩ f=(rdg k f).flatMap (FM ls):=by
 simp_all[T4,if_neg]
theorem jw0(k:Int)(ls:List UInt8)(a:Int)(f:Fct):R6 (Lr true ⟨k,ls,a⟩) f=Rz f k:=rfl
theorem jh1(k:Int)(ls:List UInt8)(a:Int)(f:Fct):R6 (Lr false ⟨k,ls,a⟩) f=ptsR f k:=rfl
theorem jk2(f:Fct):ptsR f 2=(linesR f).flatMap Vc:=rfl
theorem jb3{f:Fct}(a:k≠2)(h:f.kind≠k):ptsR f k=[]:=by
 simp_all[ptsR,if_neg,if_pos]
theorem jbW{f:Fct}(a:k≠2)(h:f.kind=k):ptsR f k=(varL f (Na f)).map Fct.args:=by
 simp_all[ptsR,if_neg]
theorem jqo{f:Fct}(a: ¬(k=2/\f.kind=1))(h:f.kind≠k):rdg k f=[]:=by
 simp_all[rdg,if_neg,if_pos]
theorem jnS{f:Fct}(e: ¬(k=2/\f.kind=1))(h:f.kind=k):rdg k f=match Hg f.args with|[a,b]=>[[a,b],[b,a]]|[u,v,w,z]=>[[u,v,w,z],[u,w,v,z],[z,v,w,u],[z,w,v,u],[v,u,z,w],[v,z,u,w],[w,u,z,v],[w,z,u,v]]|_=>[]:=by
 unfold rdg;grind
theorem jkr{sg:Bool}{p:Pat}(i:US sg p=true){f:Fct}(r:f.Rt)(v:List Int):v∈R6 (Lr sg p) f↔ ∃a∈T4 p f,vals sg a=v:=by
 unfold US at i;rw[AR]at i;obtain⟨W,i⟩:=i;obtain⟨h1,I,h3,T⟩:=r.parts;obtain⟨k,m,S⟩:=p;have K: ∀c∈m,FD sg c:=O3;clear W;simp only at i;have j: ∀n:Nat,(k=1\/k=6\/k=8)->sg=false->m.length=n->(n=2\/n=3\/n=4)->arity k=n->(v∈R6 (Lr sg ⟨k,m,S⟩) f↔ ∃a∈T4 ⟨k,m,S⟩ f,vals sg a=v):=by
  intro n hk Y hn hn2 o;subst Y;rw[jh1,jwT f hk];by_cases g:f.kind=k
  ·rw[jbW O g,if_pos g];have e:Na f=AP f.args.length:=by simp_all[Na,if_pos]
   rw[e];obtain⟨fk,fl,fn,fm,fd⟩:=f;simp only at h1 I h3 T g ⊢;rw[if_neg O]at T;obtain⟨rfl,rfl,rfl⟩:=T;grind[jAh,js3]
  ·rw[jb3 O g,if_neg g];simp
 by_cases N:k=1
 ·rw[if_pos N]at i;simp only[AR,aD,decide_eq_true_eq]at i;exact j 3 (.inl N) i.1 i.2 O (by rw[N];rfl)
 rw[if_neg N]at i;by_cases P:k=6
 ·rw[if_pos P]at i;simp only[AR,aD,decide_eq_true_eq]at i;exact j 4 (.inr (.inl P)) i.1 i.2 O (by rw[P];rfl)
 rw[if_neg P]at i;by_cases Q:k=8
 ·rw[if_pos Q]at i;simp only[AR,aD,decide_eq_true_eq]at i;exact j 2 (.inr (.inr Q)) i.1 i.2 O (by rw[Q];rfl)
 rw[if_neg Q]at i;clear j;by_cases z:k=5
 ·rw[if_pos z]at i;simp only[AR,aD,decide_eq_true_eq]at i;obtain⟨rfl,M⟩:=i;subst z;rw[jh1,jwB];by_cases g:f.kind=5
  ·rw[jbW O2 g,if_pos g];obtain⟨a,b,c,o⟩:=RA (by rw[I,g];rfl:f.args.length=3);have e:Na f=A5:=by simp_all[Na,if_neg,if_pos]
   have F:TL f A5:=Ty (n:=3) (by rw[o];rfl) O6;have E: ∀v,v∈(varL f A5).map Fct.args↔v∈(A5.map (Mb f)).map Fct.args:=λv=>by
    simp only[jzk (l:=varL f A5),jcq r F,jzk (f:=Fct.args)]
   rw[e,E,aJ,show(A5.map (Fct.args∘Mb f))=[[a,b,c],[a,c,b]] by simp[A5,Mb,o,Qk],o];simp[vals,Qq,eq_comm]
  simp_all[jb3,decide,if_neg]
 rw[if_neg z]at i;have x: ¬(k=1\/k=6\/k=8):=O;have w: ∀n:Nat,sg=true->m.length=n->(∀L∈rdg k f,L.length=n)->(v∈Rz f k↔v∈(rdg k f).map (aL λs=>s.1*40+s.2))->(v∈R6 (Lr sg ⟨k,m,S⟩) f↔ ∃a∈T4 ⟨k,m,S⟩ f,vals sg a=v):=by
  intro n Y hn J he;subst Y;rw[jw0,jne f x z,he];simp only[aG,jzk];have key: ∀L∈rdg k f,((L.map λs=>s.1*40+s.2)=v↔ ∃a∈FM m L,vals true a=v):=λL hL'=>by
   rw[jsd L m K O3];exact eq_comm
  grind
 by_cases k7:k=7
 ·rw[if_pos k7,decide_eq_true_eq]at i;cases sg with
  |true=>exact w 4 rfl i (by grind[jyf]) (by grind[jrl])
  |false=>
   clear w;subst k7;simp only[aI,if_false]at i;rw[jh1,jne f x z];by_cases g:f.kind=7
   ·rw[jbW O2 g];have H:f.args.length=8:=by rw[I,g];rfl
    have e:Na f=A7:=by simp_all[Na,if_neg,if_pos]
    have F:TL f A7:=Ty (n:=8) H O6;have E:v∈(varL f A7).map Fct.args↔v∈(A7.map (Mb f)).map Fct.args:=by
     simp only[jzk (l:=varL f A7),jcq r F,jzk (f:=Fct.args)]
    rw[e,E,jrC I7_A7.1 I7_A7.2];refine jod K ?_ ?_ v
    ·intro X hX;have:(I7.all λX=>decide (X.length=4))=true:=O2;grind
    ·obtain⟨a,b,c,d,a',b',c',d',o⟩:=VH H;have y:Hg f.args=[AQ a b,AQ c d,AQ a' b',AQ c' d']:=by rw[o];rfl
     rw[jnS O g,y,o];rfl
   grind[jb3,decide,jqo]
 rw[if_neg k7]at i;simp only[AR,Bool.or_eq_true,decide_eq_true_eq]at i;obtain⟨hk,M⟩:=i;have hk:k=2\/k=3\/k=4:=O;cases sg with
 |true=>
  refine w 2 rfl M (jrG r hk) ?_;rcases hk with rfl|hk
  ·rw[show Rz f 2=linesR f from rfl];exact jnU r v
  grind[jrl]
 |false=>
  clear w;simp only[aI,if_false]at M;rw[jh1,jne f x z];by_cases Z:k=2
  ·subst Z;rw[jk2];have key: ∀L∈rdg 2 f,(v∈Vc (L.map λs=>s.1*40+s.2)↔ ∃a∈FM m L,vals false a=v):=λL J=>by
    rw[jjA L m K (by rw[jrG r (.inl rfl) L J];exact M)];have q:=jpC 2 f r _ J;obtain⟨s,t,rfl⟩:=jiY 2 f (.inl rfl) r L J;grind[jtX]
   simp only[aG,jnU r,jzk];grind
  ·by_cases g:f.kind=k
   ·rw[jbW Z g];have G:f.args.length=4:=by rw[I,g];rcases hk with h|h|h<;>first|exact absurd h Z|(rw[h];rfl)
    have e:Na f=A2:=by simp_all[Na,if_neg]
    have F:TL f A2:=Ty (n:=4) G O6;have E:v∈(varL f A2).map Fct.args↔v∈(A2.map (Mb f)).map Fct.args:=by
     simp only[jzk (l:=varL f A2),jcq r F,jzk (f:=Fct.args)]
    rw[e,E,jrC I2_A2.1 I2_A2.2];refine jod K ?_ ?_ v
    ·intro X hX;have:(I2.all λX=>decide (X.length=2))=true:=O2;grind
    ·obtain⟨a,b,c,d,o⟩:=KQ G;have y:Hg f.args=[AQ a b,AQ c d]:=by rw[o];rfl
     rw[jnS O g,y,o];rfl
   grind[jb3,jqo]
end Go.Va
namespace Go.Va
open Go.Proofs
def jlP:List (List Nat):=(Ah [0,0,2,7,15,31,31,127,255,31,1023,2047,4095])
@[simp]def jml:List Seg:=[.any [] [] (Aq [[5],[0],[7]]),.one,.one,.any [] [] (Aq [[0,10],[5,10],[11,12,10],[13,10],[3,10]]),.one,.one,.one]
def jqx:List (List Nat):=(Ah [0,0,2,7,15,31,31,127,255,31,1023,2047,4095])
@[simp]def jpR:List Seg:=[.any [] [] (Aq [[5],[0],[22]]),.one,.one,.any [] [] (Aq [[0,25],[5,25],[26,27,25],[28,25],[3,25]]),.one,.one,.one]
def jqH:List (List Nat):=(Ah [0,0,0,6,15,0,32,127,0,0,768,2047,4095])
@[simp]def jsL:List Seg:=[.any [] [35,39,41,42] [⟨1,[],[41],[39,41,42],[]⟩,⟨0,[0],[35,41],[35,39,41,42],[]⟩,⟨0,[5],[35,41],[35,39,41,42],[]⟩,⟨0,[36,37],[35,41],[35,39,41,42],[]⟩,⟨3,[35,38],[41],[41,42],[35]⟩,⟨0,[3],[35,39],[35,39,41,42],[]⟩,⟨1,[40],[35,39],[35,39,42],[]⟩,⟨3,[39,41],[],[],[39]⟩,⟨0,[0],[35,39,41,42],[35,39,41,42],[]⟩,⟨0,[5],[35,39,41,42],[35,39,41,42],[]⟩,⟨0,[43,44],[35,39,41,42],[35,39,41,42],[]⟩],.one,.one]
variable{l:List Grd}
@[simp]theorem jCh(h:List (Nat×Blk))(l:List Grd)(k:Int):sliceV h (.d (Dd l)) none (some k) 2=if 0<=k/\k<=l.length then some (.d (Dd (l.take k.toNat))) else none:=by
 unfold Dd sliceV Gb;simp only[jbw,if_true,Option.getD_none,Option.getD_some,Int.toNat_zero,Nat.sub_zero];by_cases a:0<=k/\k<=l.length
 ·rw[if_pos a,if_pos O];simp only[cut,Nat.zero_mul,List.drop_zero,jd2 Grd.ds_len,A8];rw[Bs O]
 ·rw[if_neg a,if_neg O]
@[simp]theorem jCo(h:List (Nat×Blk))(l:List Grd)(k:Int):sliceV h (.d (Dd l)) (some k) none 2=if 0<=k/\k<=l.length then some (.d (Dd (l.drop k.toNat))) else none:=by
 unfold Dd sliceV Gb;simp only[jbw,if_true,Option.getD_none,Option.getD_some];by_cases a:0<=k/\k<=l.length
 ·rw[if_pos a,if_pos O];simp only[cut,jdj Grd.ds_len,List.length_drop];rw[Ba (by rw[jbw,List.length_drop];omega)];have e:(l.length:Int).toNat - k.toNat=l.length - k.toNat:=O1;rw[e]
 ·rw[if_neg a,if_neg O]
theorem jrS{m:List Grd}{n:Nat}{cs:List D}(b:n=m.length)(a:cs=m.flatMap Grd.ds):D.slice n (List.take (n*2) cs)=Dd m:=by
 subst b a;rw[jvk];rfl
def Ka:List Grd->Grd->List Grd
 |[],f=>[f]
 |a::l,f=>if TX a f<0 then a::Ka l f else if TX a f=0 then a::l else f::a::l
theorem jgh(f:Grd): ∀(p:Nat) (l:List Grd),p<=l.length->(∀j (g:j<l.length),j<p->TX l[j] f<0)->Ka l f=l.take p++Ka (l.drop p) f
 |0,l,_,_=>rfl
 |p+1,[],h,_=>by simp at h
 |p+1,a::l,h,e=>by
  have b:=e 0 O1 O;have i:=jgh f p l (by simpa using h) (λj g k=>e (j+1) (by simpa using g) O);simp only[List.getElem_cons_zero]at b;rw[Ka,if_pos b,List.take_succ_cons,List.drop_succ_cons,i];rfl
theorem jwK{f:Grd}(b: ∀j (a:j<l.length),TX l[j] f<0):Ka l f=l++[f]:=by
 rw[jgh f l.length l (AO _) (λj a _=>b j a),BM,List.drop_length];rfl
theorem juR{f:Grd}{p:Nat}(h:p<l.length)(b: ∀j (hj:j<l.length),j<p->TX l[j] f<0)(a:TX l[p] f=0):Ka l f=l:=by
 rw[jgh f p l O b,BQ h,Ka,if_neg O,if_pos a,<-BQ h,List.take_append_drop]
theorem jB3{f:Grd}{p:Nat}(h:p<l.length)(e: ∀j (hj:j<l.length),j<p->TX l[j] f<0)(a: ¬TX l[p] f<0)(b: ¬TX l[p] f=0):Ka l f=l.take p++f::l.drop p:=by
 rw[jgh f p l O e,BQ h,Ka,if_neg a,if_neg b]
theorem jjr(f:Grd)(l:List Grd)(q:f.Short)(v: ∀g∈l,g.Short)(t: ∀g∈l,g.kind=f.kind\/(-1000<=g.kind/\g.kind<=1000/\ -1000<=f.kind/\f.kind<=1000))(x:l.length<=2000000000000):CallsF Tryz.prog 28 [.c (Dd l),.agg f.ds] (.u (.c (.d (Dd (Ka l f))))):=by
 have k:=λg r=>jki g f (v g r) q (t g r);clear v q t;simp only[Grd.ds]at k ⊢;refine oA Tryz.func28 ?_;refine AV (λi:Nat=>⟨[(5,vI .i64 i),(3,vC (.ptr 3 0)),(0,vC (.d (Dd l)))],[(3,.box [.d (.int .i64 f.kind),.d (AT f.args)])]⟩) (λi=>i<=l.length/\ ∀j (a:j<l.length),j<i->TX l[j] f<0) (λi=>l.length - i) 0 O1 O1 ?_;rintro i ⟨w,o⟩;by_cases h:i<l.length
 ·have k:=k l[i] (AZ h);have p:=X9 h;by_cases g:TX l[i] f<0
  ·refine rA ?_;refine AA jlP jml O5 ?_;refine rA2 h p ?_;refine aA1 g k ?_;exact⟨O,⟨O,λj a y=>if e:j=i then by subst e;exact g else o j a O⟩,O⟩
  ·refine rA ?_;refine AA jlP jml O5 ?_;refine rA2 h p ?_;refine aA1 g k ?_;refine AA jqx jpR O5 ?_;refine rA2 h p ?_;refine Ac k ?_;by_cases m:TX l[i] f=0
   ·refine rA1 m ?_;rw[juR h o m]
   ·refine rA1 m ?_;refine AA jqH jsL O5 ?_;refine rA ?_;have b:min i l.length=i:=O;rw[b,jB3 h o g m];refine⟨O,O,O,O,O,O,O,jrS ?_ ?_⟩
    ·simp;omega
    ·simp[Grd.ds]
 ·have:i=l.length:=O;subst this;refine rA ?_;refine AA jlP jml O5 ?_;refine rA ?_;refine AA jqx jpR O5 ?_;refine rA ?_;refine AA jqH jsL O5 ?_;refine rA ?_;rw[jwK (λj a=>o j a a)];refine⟨O,O,O,O,O,jrS ?_ ?_⟩
  ·simp
  ·simp[Grd.ds]
end Go.Va
