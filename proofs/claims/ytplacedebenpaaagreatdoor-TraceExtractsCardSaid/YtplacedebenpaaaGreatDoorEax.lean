/- a part of the proof -/
import Derived.Test.YtplacedebenpaaaGreatDoorEau
import Derived.Test.YtplacedebenpaaaGreatDoorEaw
import Derived.Lib.RowBridge
import Derived.Shelf.Sort.Plain
import Derived.Test.YtplacedebenpaaaGreatDoorEat
set_option linter.all false
set_option maxHeartbeats 4000000
set_option maxRecDepth 10000
namespace Go.Va
open _root_.List renaming pairwise_cons → aD
open _root_.Nat.Coprime renaming dvd_of_dvd_mul_right → aG, dvd_of_dvd_mul_left → aH
open Go.Proofs Go.Shelf Go.RowKit Go.Lib Go.Sort
variable{w:World}{Z:Addr->Prop}
theorem Ext.drewN[DrC](w:World)(q:Nat):Ext w (w.drewN q):=⟨⟨rfl,rfl,rfl,AO _,λ_ _=>rfl⟩,DR.le (Nat.le_add_right _ _)⟩
theorem Ext.grow[DrC](w:World)(os:Array Obj):Ext w (Go.Sort.grow w os):=
 ⟨⟨rfl,rfl,rfl,by simp[Go.Sort.grow],(by grind[Go.Sort.grow])⟩,DR.refl _⟩
theorem Ext.asGrow{w':World}(h: @Ext jd6 w w'): ∃q os,w'=Go.Sort.grow (w.drewN q) os:=by
 refine⟨w'.drawn - w.drawn,w'.heap.extract w.heap.size w'.heap.size,?_⟩;obtain⟨b,f⟩:=h;have f:w.drawn<=w'.drawn:=f;have k:=b.os;have l:=b.tape;have m:=b.output;have p:=b.size;have o:=b.block;have j:w'.heap=w.heap++w'.heap.extract w.heap.size w'.heap.size:=by
  grind
 obtain⟨heap,tape,drawn,os,output⟩:=w;obtain⟨g,i,a,r,e⟩:=w';simp only at f k l m p o j;simp only[Go.Sort.grow,World.drewN];subst k l m;rw[<-j,show drawn+(a - drawn)=a by omega]
theorem jj3[DrC][Gv]{ρ:AE}{h:List (Nat×Blk)}(H:ZOk w Z (Ar ρ Z))(K:Heap ρ w Z h)(t: ∀r,Cells ρ r-> ¬Z r)(P: ∀i o,ρ i=some o-> ¬o.mp)
  {i:Nat} {o:Own} (hi:ρ i=some o) (Q:o.gone=false) {sz:Nat} {cs cs':List D} {app:Bool} (I:RepB ρ w Z o (.row sz cs app)) {vs:List Value} (N:vs.length=cs.length)
  (y:RepL (RepD w (Ar ρ Z)) cs' vs) (q:Nat) (os:Array Obj):
  Fr (Cells ρ) w (Go.Sort.grow ((w.drewN q).setCells o.g o.o vs) os)/\Heap ρ (Go.Sort.grow ((w.drewN q).setCells o.g o.o vs) os) Z ((i,.row sz cs' app)::rm i h):=by
 have l:Rel (Cells ρ) Z w ρ ⟨[],h⟩ { tmps:= #[],defers:=[] } w:=
  {fr:=⟨rfl,DR.refl _,rfl,rfl,AO _,λa v _ h=>h,λ_ _ _=>rfl,λ_ _ _=>rfl⟩
   heap:=K
   mine:=λj E r m S=> .inl ⟨j,E,m,S⟩
   out:=H
   mz:=t
   tmps:=O1
   defers:=rfl
   mps:=λj E m X=>O3 }
 have F:=l.ext (Ext.drewN w q);obtain⟨T,e,k,hnil,J⟩:=I;have f:0+vs.length<=o.room*o.sz:=O3;have G:=F.write hi Q (off:=0) (vs:=vs) (by simpa using f) (b:= .row sz cs' app) (λM=>by
  refine⟨T,e,by rw[y.1,N];exact k,hnil,λj x W=> ?_⟩;have m:j<vs.length:=by rw[<-y.1];grind
  have L:=World.cell?_setCells_in o.g vs o.o (w.drewN q) (λp Y=>by
   obtain⟨v,hv,_⟩:=J p (cs[p]' O) O1;simp_all) j m
  refine⟨vs[j],O,?_⟩;exact RepD.keep (by simpa using M) (RepD.keep (Keep.ext (Ext.drewN w q) _) (y.2 j x _ W O1)))
 have z:=G.ext (Ext.grow _ os);exact⟨by simpa using z.fr,by simpa [St.blk]using z.heap⟩
theorem jnx{ρ:AE}{i n:Nat}{v:Value}(h:RepC ρ w Z (.sl i 0 n) v)(f:0<n): ∃o c,ρ i=some o/\o.nil=false/\n<=o.room/\v= .slice (some ⟨o.g,o.o,none⟩) n c:=by
 obtain⟨o,a,b,e⟩:=h;grind
def Bc(a:Int):List Int->List Int
 |[]=>[a]
 |b::l=>if a<=b then a::b::l else b::Bc a l
def LI:List Int->List Int
 |[]=>[]
 |a::l=>Bc a (LI l)
theorem C4(a:Int): ∀l,(Bc a l).Perm (a::l)
 |[]=> .refl _
 |b::l=>by
  unfold Bc;split
  ·exact .refl _
  ·exact((C4 a l).cons b).trans (.swap a b l)
theorem Bq: ∀l,(LI l).Perm l
 |[]=> .refl _
 |a::l=>(C4 a _).trans ((Bq l).cons a)
theorem DC(a:Int): ∀{l:List Int},l.Pairwise (· <= ·)->(Bc a l).Pairwise (· <= ·)
 |[],_=>by simp[Bc]
 |b::l,h=>by
  unfold Bc;rw[aD]at h;split
  ·rename_i e;rw[aD,aD];exact⟨λx hx=>by rcases jzn.1 hx with rfl|hx;exact e;exact Int.le_trans e (h.1 x hx),h⟩
  ·rw[aD];exact⟨λx hx=>by rcases jzn.1 ((C4 a l).mem_iff.1 hx)with rfl|hx;omega;exact h.1 x hx,DC a h.2⟩
theorem Dn: ∀l,(LI l).Pairwise (· <= ·)
 |[]=> .nil
 |a::l=>DC a (Dn l)
theorem Zv(l:List Int):(LI l).length=l.length:=(Bq l).length_eq
theorem jmG{l m:List Int}(e:m.Perm l)(f:m.Pairwise (· <= ·)):m=LI l:=
 List.Perm.eq_of_pairwise (le:=λa b:Int=>a<=b) (λa b _ _ g h=>O) f (Dn l) (e.trans (Bq l).symm)
theorem ED(l:List Int):(l.mergeSort λx y=>decide (x<=y))=LI l:=
 jmG (List.mergeSort_perm _ _) ((List.pairwise_mergeSort (λa b c e f=>by simp at*;omega) (λa b=>by simp;omega) l).imp λh=>by simpa using h)
theorem jpo(l:List Int):RepL (RepD w Z) (l.map i64) (l.map (Value.int .i64)):=by
 refine⟨O1,λj x v g f=> ?_⟩;simp only[Bf,jze]at g f;obtain⟨a,h,rfl⟩:=g;obtain⟨b,e,rfl⟩:=f;rw[h]at e;cases e;exact .int _ _
theorem jmd[DrC](i:Nat)(l:List Int)(app:Bool)(T:l≠[])(hl:l.length<=1099511627776):
  Fw Tryz.prog 265 [.c (.sl i 0 l.length)] [(i,.row 1 (l.map i64) app)] [(i,.row 1 ((LI l).map i64) app)] (.tup []):=by
 have f:0<l.length:=List.length_pos_iff.2 T;refine⟨⟨_,Tryz.func265,rfl,O2⟩,rfl,λw Z ρ vals X F E I Q=> ?_⟩;obtain⟨v,rfl⟩: ∃v,vals=[v]:=by
  have:=Q.1
  match vals,this with
  |[v],_=>exact⟨v,rfl⟩
 obtain⟨o,c,y,hnil,hroom,rfl⟩:=jnx (w:=w) (Z:=Z) (Q.2 0 _ _ rfl rfl) f;obtain⟨t,p,L⟩:=F.rep i (.row 1 (l.map i64) app) (by simp[lk]);rw[y]at p;cases p;have z:=L;obtain⟨H,K,M,⟨hn1,m⟩,Y⟩:=z;have a:o.gone=false:=O3;have r: ∀j (b:j<l.length),w.cell? ⟨o.g,o.o+j,none⟩=some (.int .i64 l[j]):=λj b=>by
  obtain⟨v,x,W⟩:=Y j (i64 l[j]) (by simp[b]);cases W;exact x
 have J:Holds (Value.int .i64) w o.g o.o l.toArray:=λj b=>by
  have hj':j<l.length:=by simpa using b
  refine⟨?_,(F.owns.cells i o y a j (by rw[H];omega)).2⟩;grind
 have h:o.g<w.heap.size:=World.block_lt_of_cell? w _ (r 0 f);have k:=Any.slices_Sort_int Tryz.laysSI o.g o.o c l w J h O;refine k.mono λe w' ⟨he,n,os,S⟩=> ?_;rw[putRow_eq_setCells (Value.int .i64) w o.g o.o l.toArray _ n J O1,ED]at S;have G: ∀j t,ρ j=some t-> ¬t.mp:=λj t b N=>by
  have x:=I j t b;by_cases e:j=i
  ·subst e;rw[y]at b;cases b;rw[N.2,N.1]at m;cases m
  ·rw[BD e]at x;cases x
 have P:=jj3 X F E G y a L (vs:=(LI l).map (Value.int .i64)) (cs':=(LI l).map i64) (by simp[Zv]) (jpo _) n os;subst S;have q:=P.2;simp only[rm,if_true]at q;refine⟨_,he,P.1,q,[],rfl,O1,O1⟩
structure Fct.Rt (f:Fct):Prop where
 ok:Eb f=true
 mild:f.Mild
theorem jxv{m d n e:Nat}(a:Nat.gcd m d=1)(b:Nat.gcd n e=1)(l:d≠0)(o:e≠0)(h:m*e=n*d):m=n/\d=e:=by
 have f:m∣n:=aG (k:=m) (n:=d) a ⟨e,h.symm⟩;have g:n∣m:=aG (k:=n) (n:=e) b ⟨d,h⟩;have i:d∣e:=aH (k:=d) (m:=m) O3 ⟨n,O3⟩;have j:e∣d:=aH (k:=e) (m:=n) O3 ⟨m,O3⟩;grind[Nat.dvd_antisymm]
theorem jxY{a b:Bool}{m d n e:Nat}(h:LG a m*(e:Int)=LG b n*(d:Int))(f:d≠0)(g:e≠0):m*e=n*d/\(m=0\/a=b):=by
 have p:0<=(m:Int)*e:=O3;have q:0<=(n:Int)*d:=O3;have z:(m:Int)*e=0->m=0:=λh=>by
  have:m*e=0:=by exact_mod_cast h
  rcases Nat.mul_eq_zero.1 this with h|h
  ·exact h
  omega
 unfold LG at h;cases a<;>cases b<;>simp only[if_true,if_false,Int.neg_mul,Bool.false_eq_true]at h
 ·grind
 ·omega
 ·omega
 grind
theorem Fct.Rt.parts{f:Fct}(h:f.Rt):arity f.kind≠0/\f.args.length=arity f.kind/\(∀a∈f.args,0<=a/\a<40)/\
  (if f.kind=9 then CV f.neg f.abs f.den=true else f.neg=false/\f.abs=[]/\f.den=[]):=by
 have:=h.ok;unfold Eb A6 at this;simp only[decide_eq_true_eq]at this;by_cases b:arity f.kind=0
 ·omega
 rw[if_neg b]at this;by_cases e:f.args.length≠arity f.kind
 ·omega
 rw[if_neg e]at this;by_cases g:f.args.any (λa=>decide (a<0)||decide (40<=a))=true
 ·grind
 rw[if_neg g]at this;refine⟨b,O,λa j=> ?_,?_⟩
 ·grind
 ·by_cases i:f.kind=9
  ·grind
  simp_all[if_neg,DP,AR,Bool.not_eq_true',decide_eq_true_eq]
theorem Fct.Rt.num{f:Fct}(h:f.Rt):f.Num:=λa=>by
 have:=h.parts.2.2.2;rw[if_pos a]at this;exact(Cz this h.mild.oa h.mild.od).2.2.1
theorem Fct.ext'{f g:Fct}(a:f.kind=g.kind)(b:f.args=g.args)(e:f.neg=g.neg)(h:f.abs=g.abs)(i:f.den=g.den):f=g:=by
 cases f;simp_all
theorem WZ{f g:Fct}(a:f.Rt)(b:g.Rt):C2 f g=0↔f=g:=by
 constructor
 ·intro h;rw[jmp]at h;by_cases l:cmpK f g=0
  ·obtain⟨I,J⟩:=cmpK_zero.1 l;rw[if_neg (by simp[l])]at h;have p:=a.parts.2.2.2;have q:=b.parts.2.2.2;by_cases m:f.kind=9
   ·rw[if_pos m]at h p;rw[if_pos O]at q;obtain⟨o,r,i,t,v⟩:=Cz p a.mild.oa a.mild.od;obtain⟨w,x,j,y,z⟩:=Cz q b.mild.oa b.mild.od;have G:=(jmP _ _).1 h;obtain⟨E,c2⟩:=jxY G i j;obtain⟨k,F⟩:=jxv t y i j E;refine Fct.ext' I J ?_ (by rw[o,w,k]) (by rw[r,x,F]);rcases c2 with c2|c2
    ·cases H:f.neg with
     |true=>exact absurd c2 (v H)
     |false=>
      cases e:g.neg with
      |true=>exact absurd (k ▸ c2) (z e)
      |false=>rfl
    ·exact c2
   ·rw[if_neg m]at p;rw[if_neg O]at q;grind[Fct.ext']
  omega
 ·rintro rfl;exact isCmp_F.self a.num
end Go.Va
namespace Go.Va
open Int renaming natCast_add → qA, natCast_mul → qB
open Go.Proofs
theorem jhR[DrC](f g:Fct)(y:f.Mild)(E:g.Mild)(L:f.Num)(M:g.Num):CallsF Tryz.prog 51 [.agg f.ds,.agg g.ds] (.u (.c (.d (.int .i64 (C2 f g))))):=by
 obtain⟨k,a,n,m,d⟩:=f;obtain⟨i,j,q,p,l⟩:=g;obtain⟨Q,S,N,P,K⟩:=y;obtain⟨I,J,v,w,t⟩:=E;simp only[Fct.Num,Fct.ds]at*;have F:=jbL k i;have G:=jjh a j K t;have x:CallsF Tryz.prog 56 [.c (.slice 2 [.int .i64 (Nk k i),.int .i64 (D1 a j)])] _:=jc4 [Nk k i,D1 a j] O1;have e:cmpK ⟨k,a,n,m,d⟩ ⟨i,j,q,p,l⟩=It [Nk k i,D1 a j]:=rfl;have z:=cmpK_zero (a:=⟨k,a,n,m,d⟩) (b:=⟨i,j,q,p,l⟩);simp only at z;rw[<-e]at x;unfold C2;generalize cmpK ⟨k,a,n,m,d⟩ ⟨i,j,q,p,l⟩=c at*;refine oA Tryz.func51 ?_;refine AA (Ah [0,1,0,4,15,0,32,0,128,511,1023,2047,4095]) [.any [] [] (Aq [[2],[6],[3],[8],[7,9],[2],[11],[3],[13]]),.one,.one,.one,.one] O5 ?_;refine rA ?_;refine aA F ?_;refine aA G ?_;refine Ac x ?_;by_cases h:c=0
 ·by_cases o:k=9
  ·have r:i=9:=by rw[<-(z.1 h).1];exact o
   have H:=jl5 n q m d p l N O P O v O w O (L o) (M r);refine rA2 h o ?_;refine Ac H ?_;simp -implicitDefEqProofs[jJ,-qA,-qB,ZJ]
  ·exact kA2 h o
 ·exact kA1 h
end Go.Va
namespace Go.Va
open _root_.List renaming pairwise_cons → aD, range → aG, flatMap_cons → aH, ext_getElem? → aI
open Go.Proofs Go.Proofs.Tryz
open Go.Shelf Go.RowKit Go.Lib Go.Sort
def jai{α:Type}(cf:α->α->Int)(f:α):List α->List α
 |[]=>[f]
 |a::l=>if cf a f<0 then a::jai cf f l else f::a::l
def Q0{α:Type}(cf:α->α->Int):List α->List α
 |[]=>[]
 |a::l=>jai cf a (Q0 cf l)
section
variable {α:Type} {cf:α->α->Int} {P:α->Prop}
theorem jiy(f:α): ∀l,(jai cf f l).Perm (f::l)
 |[]=>List.Perm.refl _
 |a::l=>by
  unfold jai;split
  ·exact((jiy f l).cons a).trans (List.Perm.swap f a l)
  rfl
theorem TF: ∀l,(Q0 cf l).Perm l
 |[]=>List.Perm.refl _
 |a::l=>(jiy a _).trans ((TF l).cons a)
theorem jei(l:List α):(Q0 cf l).length=l.length:=(TF l).length_eq
theorem jra(h:IsCmp P cf){f:α}(i:P f): ∀{l:List α},(∀x∈l,P x)->l.Pairwise (λa b=>cf a b<=0)->(jai cf f l).Pairwise (λa b=>cf a b<=0)
 |[],_,_=>by simp[jai]
 |a::l,m,e=>by
  rw[aD]at e;have j:=m a O1;unfold jai;split
  ·rename_i o;rw[aD];refine⟨λb hb=> ?_,jra h i O3 e.2⟩;rcases jzn.1 ((jiy f l).mem_iff.1 hb)with rfl|hb
   ·omega
   ·exact e.1 b hb
  ·rename_i k;have g:cf f a<=0:=by have:=h.anti a f j i;omega
   rw[aD,aD];refine⟨λb hb=> ?_,e.1,e.2⟩;rcases jzn.1 hb with rfl|hb
   ·exact g
   ·exact(h.tr f a b i j O3 g (e.1 b hb)).1
theorem jfX(h:IsCmp P cf): ∀{l:List α},(∀x∈l,P x)->(Q0 cf l).Pairwise (λa b=>cf a b<=0)
 |[],_=>by simp[Q0]
 |a::l,e=>jra h (e a O1) (by grind[TF]) (jfX h O3)
theorem ji6(h:IsCmp P cf)(j: ∀x y,P x->P y->cf x y=0->x=y){l m:List α}(e: ∀x∈l,P x)(f:m.Perm l)(p:m.Pairwise (λa b=>cf a b<=0)):m=Q0 cf l:=by
 refine List.Perm.eq_of_pairwise (le:=λa b=>cf a b<=0) (λa b k o q r=> ?_) p (jfX h e) (f.trans (TF l).symm);have g:=e a (f.mem_iff.1 k);have i:=e b ((TF l).mem_iff.1 o);have:=h.anti a b g i;exact j a b g i O
end
theorem jAF{α:Type}[Inhabited α]{enc:α->List Value}{k:Nat}(m: ∀x,(enc x).length=k)(d:Array α):(flatK enc k d).toList=d.toList.flatMap enc:=by
 have f: ∀l:List α,(l.flatMap enc).length=l.length*k:=λl=>by
  induction l with
  |nil=>simp
  |cons a l h=>grind
 have e: ∀(l:List α) (i:Nat),(l.flatMap enc).drop (i*k)=(l.drop i).flatMap enc:=λl=>by
  induction l with
  |nil=>intro i;simp
  |cons a l h=>
   intro i;cases i with
   |zero=>simp
   |succ i=>simp_all[aH,List.drop_succ_cons,List.drop_append,DU,Nat.add_mul,List.nil_append,Nat.one_mul,Nat.add_sub_cancel]
 apply aI;intro t;by_cases g:t<d.size*k
 ·have b:0<k:=by
   grind
  have p:t/k<d.size:=(Nat.div_lt_iff_lt_mul b).2 g;have o:t%k<k:=Nat.mod_lt _ b;have j:(d.toList.flatMap enc)[t]? =((d.toList.flatMap enc).drop (t/k*k))[t%k]? :=by
   rw[List.getElem?_drop];simp_all[congr,Nat.mul_comm,Nat.div_add_mod]
  grind[List.drop_eq_getElem_cons,List.getElem?_append_left,get_flatK,flatK,size_flatK,Array.getElem?_eq_getElem,List.getElem?_eq_getElem]
 simp_all
def EV{α:Type}(ds:α->List D)(P:α->Prop)(w:World)(Z:Addr->Prop):Type:={ p:α×List Value//RepL (RepD w Z) (ds p.1) p.2/\P p.1 }
theorem jsf{α:Type}{ds:α->List D}{P:α->Prop}{w:World}{Z:Addr->Prop}: ∀l:List (EV ds P w Z),RepL (RepD w Z) ((l.map λx=>x.1.1).flatMap ds) (l.flatMap λx=>x.1.2)
 |[]=>⟨rfl,O1⟩
 |a::l=>by
  simp only[List.map_cons,aH];exact RepL.append a.2.1 (jsf l)
theorem jp3{k:Nat}(f:Nat->Value)(b j:Nat)(a:j<k):((aG k).map λr=>f (b+r))[j]? =some (f (b+j)):=by
 simp[a]
section
variable {α:Type} {ds:α->List D} {K:Nat} {P:α->Prop} {cf:α->α->Int}
theorem jiC[DrC](hK:0<K)(J: ∀x,(ds x).length=K)(hC:IsCmp P cf)(h00: ∀x,P x->cf x x=0)(h0: ∀x y,P x->P y->cf x y=0->x=y){W:Ren}(L:SlLaysF0.n6 prog W){fs:Nat}(hfs:W.f 6=fs)(hok:CY prog fs)
  (aE: ∀w,(isAgg (W.t 24)).run prog w= .ok true w) (zE: ∀w,(Go.sizeOf (W.t 24)).run prog w= .ok K w) (g:FuncId) (eg: ∀args w,(callFunc g args).run prog w= .ok (.enter g args) w)
  (hg: ∀x y,P x->P y-> @CallsF jd6 prog g [.agg (ds x),.agg (ds y)] (.u (.c (.d (.int .i64 (cf x y))))))
  (i:Nat) (l:List α) (app:Bool) (hl:l.length<=1099511627776) (hr: ∀f∈l,P f):
  Fw prog fs [.c (.sl i 0 l.length),.c (.d (.fn g []))] [(i,.row K (l.flatMap ds) app)] [(i,.row K ((Q0 cf l).flatMap ds) app)] (.tup []):=by
 refine⟨hok,rfl,λw Z ρ vals hZ hh hcz hρ I=> ?_⟩;obtain⟨v,v2,rfl⟩: ∃v v2,vals=[v,v2]:=by
  have:=I.1
  match vals,this with
  |[v,v2],_=>simp
 have hv2:v2= .func (.func g) #[] #[]:=by
  have T:RepD w (Ar ρ Z) (.fn g []) v2:=I.2 1 _ _ rfl rfl;cases T with
  |fn f caps vs hlen h3=>
   grind
 subst hv2;subst hfs;rcases Nat.eq_zero_or_pos l.length with hlz|hpos
 ·
  have hl0:l=[]:=O3;subst hl0;obtain⟨p,cap,rfl⟩: ∃p cap,v= .slice p 0 cap:=by
   obtain⟨o,_,_,h3⟩:=I.2 0 _ v rfl rfl;grind
  have M:=AnyF.slices_SortFunc_none L p cap (.func (.func g) #[] #[]) w;refine Calls.mono M λe w' ⟨he,hw⟩=> ?_;subst hw;exact⟨_,he,⟨rfl,DR.refl _,rfl,rfl,AO _,λ_ _ _ h=>h,λ_ _ _=>rfl,λ_ _ _=>rfl⟩,hh,[],rfl,O1,O1⟩
 obtain⟨o,c,ho,hnil,hroom,rfl⟩:=jnx (w:=w) (Z:=Z) (I.2 0 _ _ rfl rfl) hpos;obtain⟨o',ho',hb⟩:=hh.rep i (.row K (l.flatMap ds) app) (by simp[lk]);rw[ho]at ho';cases ho';have hb':=hb;obtain⟨hsz,happ,hlen,⟨hn1,hn2⟩,hc⟩:=hb';have H:o.gone=false:=O3;rw[Qw J]at hlen;let vs:Nat->Value:=λj=>(w.cell? (o.at j)).getD undef;have hvs: ∀(j:Nat) (x:D),(l.flatMap ds)[j]? =some x->w.cell? (o.at j)=some (vs j)/\RepD w (Ar ρ Z) x (vs j):=O3;have hrow: ∀(k:Nat) (Q:k<l.length),RepL (RepD w (Ar ρ Z)) (ds l[k]) ((aG K).map λr=>vs (k*K+r)):=λk Q=>by
  refine⟨by simp[J],λj x v hx I=> ?_⟩;have hj:j<K:=O3;have he:(l.flatMap ds)[k*K+j]? =some x:=by
   have:=Ic J l k Q;grind
  grind
 let el:Fin l.length->EV ds P w (Ar ρ Z):=λk=>⟨(l[k],(aG K).map λr=>vs (k*K+r)),hrow k k.2,hr _ (AZ k.2)⟩
 haveI:Inhabited (EV ds P w (Ar ρ Z)):=⟨el ⟨0,hpos⟩⟩
 let E:EV ds P w (Ar ρ Z)->List Value:=λx=>x.1.2;have Q: ∀x,(E x).length=K:=λx=>x.2.1.1.symm.trans (J _);have X: ∀x,∀v∈E x,v.oneCell'=true:=λx v I=>by
  obtain⟨j,hj⟩:=List.getElem?_of_mem I;have hlt:j<(ds x.1.1).length:=by
   grind
  exact(x.2.1.2 j _ v (AD hlt) hj).one
 let d:Array (EV ds P w (Ar ρ Z)):=Array.ofFn el;have F:d.size=l.length:=by simp[d]
 have hdg: ∀(t:Nat) (N:t<l.length),d[t]! =el ⟨t,N⟩:=λt N=>by
  rw[getElem!_pos d t (by rw[F];exact N)];simp[d]
 have hH:HoldsK E K w o.g o.o d:=λt N=>by
  rw[size_flatK,F]at N;have hq:t/K<l.length:=(Nat.div_lt_iff_lt_mul hK).2 N;have hin:t<o.room*o.sz:=by rw[hsz];omega
  refine⟨?_,(hh.owns.cells i o ho H t hin).2⟩;rw[get_flatK E K d t (by rw[F];exact N),hdg _ hq];have hx:=AD (l:=l.flatMap ds) (i:=t) (by rw[Qw J];exact N);have T:=(hvs t _ hx).1;show w.cell? (o.at t)=some (id _);rw[T];have hm:t%K<K:=Nat.mod_lt _ hK;show some (vs t)=some (((aG K).map λr=>vs (t/K*K+r))[t%K]!);simp_all[jp3,List.getElem!_of_getElem?,Nat.mul_comm,Nat.div_add_mod]
 let cg:EV ds P w (Ar ρ Z)->EV ds P w (Ar ρ Z)->Int:=λx y=>cf x.1.1 y.1.1;have hO:SWO (ltOf cg):=
  {irrefl:=(by grind[ltOf])
   trans:=λx y z X T=>by
    simp only[ltOf,cg,decide_eq_true_eq]at*;have:=hC.tr x.1.1 y.1.1 z.1.1 x.2.2 y.2.2 z.2.2 O O;omega
   ntrans:=λx y z X T=>by
    simp only[ltOf,cg,decide_eq_false_iff_not]at*;have a1:=hC.anti x.1.1 y.1.1 x.2.2 y.2.2;have a2:=hC.anti y.1.1 z.1.1 y.2.2 z.2.2;have a3:=hC.anti x.1.1 z.1.1 x.2.2 z.2.2;have:=hC.tr z.1.1 y.1.1 x.1.1 z.2.2 y.2.2 x.2.2 O O;omega }
 have hblk:o.g<w.heap.size:=by
  have hx:=AD (l:=l.flatMap ds) (i:=0) (by rw[Qw J];exact Nat.mul_pos hpos hK);exact World.block_lt_of_cell? w _ (hvs 0 _ hx).1
 have hcmp:CmpLays prog g #[] E K cg o.g o.o d.size w:=λm os dk hdk x y=>by
  have S:Keep w (sortWorldK E K w o.g o.o m dk os) (Ar ρ Z) (λ_=>False):=λad v hn I=>by
   refine⟨?_,λh=>h⟩;have hlt:=World.block_lt_of_cell? w _ I;unfold sortWorldK;have hsz2:ad.block<(putRowK E K (Sort.ahead w m) o.g o.o dk).heap.size:=by
    rw[size_putRowK];exact hlt
   rw[cell?_grow _ _ _ hsz2];unfold putRowK;rw[cell?_putRow_other id (Sort.ahead w m) o.g o.o _ ad ?_]
   ·exact I
   ·rw[size_flatK,hdk,F];by_cases e1:ad.block=o.g
    ·by_cases e2:ad.off<o.o
     ·omega
     ·by_cases e3:o.o+l.length*K<=ad.off
      ·omega
      ·exact absurd (.inr ⟨i,o,ho,H,e1,O,by rw[hsz];omega⟩) hn
    ·exact .inl e1
  have hzk:ZOk (sortWorldK E K w o.g o.o m dk os) (λ_=>False) (λ_=>False):=
   have hg: ∀k∈GB,k<w.heap.size/\k≠o.g:=λk Q=>⟨(hZ.gl k Q).1,λe=>(hZ.gl k Q).2 ⟨o.g,o.o,none⟩ e.symm (.inr ⟨i,o,ho,H,rfl,O1,by rw[hsz];exact .inr (show o.o<o.o+o.room*K from by have X:=Nat.mul_pos hpos hK;omega)⟩)⟩
   ⟨λ_ h=>h.elim,(by grind[Nat.lt_of_lt_of_le,sortWorldK,grow,putRowK,putRow,mapBlock,Sort.ahead,Array.size_append,Array.size_modify]),hZ.gw.keep λk Q=>by
    have X:=(hg k Q).1;have T:=(hg k Q).2;unfold sortWorldK grow putRowK putRow mapBlock Sort.ahead;grind⟩
  have hc1:=(hg x.1.1 y.1.1 x.2.2 y.2.2).2 (sortWorldK E K w o.g o.o m dk os) (λ_=>False) [.agg (E x).toArray,.agg (E y).toArray] hzk
   ⟨rfl,λj a v ha I=>by
    match j,ha,I with
    |0,ha,I=>
     cases ha;cases I;exact⟨E x,rfl,x.2.1.mono λq u hu=>hu.keep S⟩
    |1,ha,I=>
     cases ha;cases I;exact⟨E y,rfl,y.2.1.mono λq u hu=>hu.keep S⟩⟩
  refine Calls.mono hc1 λe w' ⟨v,he,hx,hres⟩=> ?_;obtain⟨_,o2,_,h3⟩:=hres;have h4:RepD w' (Ar (B3 0 [] o2) λ_=>False) (.int .i64 (cf x.1.1 y.1.1)) v:=(h3 0).1;cases h4;obtain⟨q,os',hw⟩:=hx.asGrow;grind
 have M:=AnyQ.slices_SortFunc L K aE zE E Q X cg hO g #[] o.g o.o c d w eg hcmp hH hblk (by rw[F];omega);rw[F]at M;refine Calls.mono M λe w' ⟨he,G,n,os,hp,hs,hw⟩=> ?_;obtain⟨hp1,hp2,hp3⟩:=hp;have Y:G.size=l.length:=hp1.trans F;have hperm:G.toList.Perm d.toList:=by
  have e1:G.extract 0 l.length=G:=by rw[<-Y];simp
  have e2:d.extract 0 l.length=d:=by rw[<-F];simp
  rwa [e1,e2]at hp3
 have hdl:d.toList.map (λx=>x.1.1)=l:=by
  apply aI;intro t;by_cases N:t<l.length
  ·grind
  grind
 have hsort:G.toList.map (λx=>x.1.1)=Q0 cf l:=by
  refine ji6 hC h0 hr O3 ?_;rw[List.pairwise_map,List.pairwise_iff_getElem];intro a b ha hb hab;have ha':a<G.size:=by simpa using ha
  have hb':b<G.size:=by simpa using hb
  have T:=hs a b (Nat.zero_le _) hab O;rw[getElem!_pos G a ha',getElem!_pos G b hb']at T;simp only[ltOf,cg,decide_eq_false_iff_not]at T;simp only[Array.getElem_toList];have:=hC.anti G[a].1.1 G[b].1.1 G[a].2.2 G[b].2.2;omega
 have hfl:=jAF Q G;have hw2:w'=Go.Sort.grow ((w.drewN n).setCells o.g o.o ((G.toList.flatMap E).map id)) os:=by
  rw[hw];unfold sortWorldK putRowK;have e1:flatK E K G=(G.toList.flatMap E).toArray:=by rw[<-hfl]
  rw[e1,putRow_eq_setCells id w o.g o.o (flatK E K d) _ n hH (by grind[Array.length_toList,size_flatK])]
 rw[List.map_id]at hw2;have hrl:=jsf G.toList;rw[hsort]at hrl;have hmp: ∀j o',ρ j=some o'-> ¬o'.mp:=λj o' hj hm=>by
  have X:=hρ j o' hj;by_cases e:j=i
  ·subst e;rw[ho]at hj;cases hj;rw[hm.2,hm.1]at hn2;cases hn2
  ·rw[BD e]at X;cases X
 have N:=jj3 hZ hh hcz hmp ho H hb (vs:=G.toList.flatMap E) (cs':=(Q0 cf l).flatMap ds) (by
  rw[<-hfl,Array.length_toList,size_flatK,Y,Qw J]) hrl n os
 have ht2:=N.2;simp only[rm,if_true]at ht2;subst hw2;exact⟨_,he,N.1,ht2,[],rfl,O1,O1⟩
end
end Go.Va
namespace Go.Va
open _root_.List renaming map_set → aD, flatMap_eq_nil_iff → aG, ext_getElem? → aH, flatMap_append → aI, getElem?_set → aJ, replicate → aL
open Int renaming natCast_add → qA, natCast_mul → qB, natCast_emod → qC, natCast_ediv → qD, natCast_pow → qE
open List renaming reduceReplicate → qF
open Go.Proofs Go.Proofs.Tryz
structure Bnd where
 v:List Int
 h:v.length=78
variable{k:Nat}
theorem Bnd.ext'{a b:Bnd}(h:a.v=b.v):a=b:=by cases a;cases b;simp only at h;subst h;rfl
def Bnd.ds(b:Bnd):List D:=b.v.map i64
def Bnd.cs(b:Bnd):List C:=b.v.map λx=> .d (i64 x)
def Bnd.rs(b:Bnd):List RC:=b.v.map λx=> .d (i64 x)
def Bnd.zero:Bnd:=⟨aL 78 0,rfl⟩
def Bnd.P(b:Bnd)(k:Nat):Int:=b.v.getD k 0
def Bnd.S1(b:Bnd)(k:Nat):Int:=b.v.getD (26+k*2) 0
def Bnd.S2(b:Bnd)(k:Nat):Int:=b.v.getD (26+k*2+1) 0
def Bnd.setP(b:Bnd)(k:Nat)(x:Int):Bnd:=⟨b.v.set k x,by simp[b.h]⟩
def Bnd.setS(b:Bnd)(k:Nat)(x y:Int):Bnd:=⟨(b.v.set (26+k*2) x).set (26+k*2+1) y,by simp[b.h]⟩
section
variable (b:Bnd)
@[simp]theorem Bnd.cs_len:b.cs.length=78:=by simp[Bnd.cs,b.h]
@[simp]theorem Bnd.ds_len:b.ds.length=78:=by simp[Bnd.ds,b.h]
@[simp]theorem Bnd.map_ds:b.ds.map C.d=b.cs:=by simp[Bnd.cs,Bnd.ds]
@[simp]theorem Bnd.on_cs(g:Nat->C->C):b.cs.map (C.on g)=b.cs:=by simp[Bnd.cs]
@[simp]theorem Bnd.take_cs:b.cs.take 78=b.cs:=Ba O1
@[simp]theorem Bnd.splice_rep(z:C):splice 0 b.cs (aL 78 z)=b.cs:=by simp[splice]
@[simp]theorem Bnd.splice_cs(a:Bnd):splice 0 b.cs a.cs=b.cs:=by simp[splice,DU]
@[simp]theorem Bnd.toD_cs(ok:Nat->Bool)(h:List (Nat×Blk))(k:Nat):b.cs.mapM (toD ok h k)=some b.ds:=by
 unfold Bnd.cs Bnd.ds
 induction b.v with
 |nil=>rfl
 |cons a r e=>
  have:toD ok h k (.d (i64 a))=some (i64 a):=by cases k<;>rfl
  simp only[List.map_cons,List.mapM_cons,this,e];rfl
theorem jqO(h:List (Nat×Blk)): ∀(k:Nat) (l:List C),(∀c∈l,c.id? =none)->DZ h k l=[]
 |0,_,_=>rfl
 |k+1,l,b=>by
  unfold DZ;rw[aG];intro c a;rw[b c a]
theorem Bnd.id_cs: ∀c∈b.cs,c.id? =none:=λc a=>by
 unfold Bnd.cs at a;obtain⟨x,_,rfl⟩:=jzk.1 a;rfl
theorem M4(h:List (Nat×Blk))(k:Nat)(a b:List C):DZ h k (a++b)=DZ h k a++DZ h k b:=by
 cases k with
 |zero=>rfl
 |succ k=>simp[DZ,aI]
@[simp]theorem Bnd.reach_cs(h:List (Nat×Blk))(k:Nat):DZ h k b.cs=[]:=jqO h k _ b.id_cs
theorem ND(h:List (Nat×Blk))(k:Nat):DZ h k []=[]:=by cases k<;>rfl
theorem Oj(h:List (Nat×Blk))(k:Nat)(x:D)(l:List C):DZ h k (.d x::l)=DZ h k l:=by cases k<;>rfl
theorem jwG{h:List (Nat×Blk)}{i off n sz:Nat}{cs:List D}{app:Bool}(a:lk i h=some (.row sz cs app))(k:Nat)(l:List C):DZ h (k+1) (.sl i off n::l)=i::DZ h (k+1) l:=by
 simp[DZ,C.id?,a]
@[simp]theorem Bnd.flatMap_reach(f:C->List Nat)(e: ∀c,c.id? =none->f c=[]):b.cs.flatMap f=[]:=aG.2 λc a=>e c (b.id_cs c a)
@[simp]theorem Bnd.noIds_cs:b.cs.all (λc=>c.id?.isNone)=true:=jzy.2 λc a=>by rw[b.id_cs c a];rfl
@[simp]theorem Bnd.men_cs(d:Nat):b.cs.any (C.men d)=false:=List.any_eq_false.2 λc a=>by simp[C.men,b.id_cs c a]
@[simp]theorem Bnd.imp_rs(k:Nat):b.rs.map (RC.imp k)=b.cs:=by simp[Bnd.cs,Bnd.rs,RC.imp]
@[simp]theorem Bnd.rows_rs:b.rs.flatMap RC.rows=[]:=by
 rw[aG];intro c a;obtain⟨x,_,rfl⟩:=jzk.1 a;rfl
@[simp]theorem Bnd.flat_rs:b.rs.all RC.flat=true:=jzy.2 λc a=>by
 obtain⟨x,_,rfl⟩:=jzk.1 a;rfl
theorem joj(b:St)(pure:Bool): ∀l:List Int,fitL (fitC b pure) (l.map λx=>C.d (i64 x)) (l.map λx=>RC.d (i64 x))
 |[]=>trivial
 |a::l=>⟨⟨λ_=>rfl,rfl⟩,joj b pure l⟩
@[simp]theorem Bnd.fit_rs(a:St)(pure:Bool):fitL (fitC a pure) b.cs b.rs:=joj a pure b.v
theorem Bnd.get_p(e:k<26):b.cs[k]? =some (.d (.int .i64 (b.P k))):=by
 have a:k<b.v.length:=by rw[b.h];omega
 simp[Bnd.cs,Bnd.P,a,i64]
theorem Bnd.set_p(g:k<26)(x:Int):splice k [.d (.int .i64 x)] b.cs=(b.setP k x).cs:=by
 have f:k<b.cs.length:=by rw[b.cs_len];omega
 apply aH;intro j;rw[Df _ _ _ (by simp;omega)];have e:k<b.v.length:=by rw[b.h];omega
 simp only[Bnd.cs,Bnd.setP,Bf,aJ];by_cases a:j=k
 ·subst a;simp[e,i64]
 ·rw[if_neg (by simp;omega),if_neg O]
theorem Bnd.get_s(f:k<26):(b.cs.drop (26+k*2)).take 2=[.d (.int .i64 (b.S1 k)),.d (.int .i64 (b.S2 k))]:=by
 have a:26+k*2<b.v.length:=by rw[b.h];omega
 have e:26+k*2+1<b.v.length:=by rw[b.h];omega
 unfold Bnd.cs;apply aH;intro j;rw[List.getElem?_take,List.getElem?_drop,Bf]
 match j with
 |0=>simp[Bnd.S1,a,i64]
 |1=>simp[Bnd.S2,e,i64]
 |j+2=>simp;omega
theorem Bnd.set_s(g:k<26)(x y:Int):splice (26+k*2) [.d (.int .i64 x),.d (.int .i64 y)] b.cs=(b.setS k x y).cs:=by
 have f:26+k*2+1<b.v.length:=by rw[b.h];omega
 apply aH;intro j;rw[Df _ _ _ (by simp;omega)];simp only[Bnd.cs,Bnd.setS,Bf,aJ,List.length_set];by_cases a:j=26+k*2
 ·subst a;simp[show 26+k*2<b.v.length by omega,i64]
 ·by_cases e:j=26+k*2+1
  ·subst e;simp[f,i64]
  ·rw[if_neg (by simp;omega),if_neg O,if_neg O]
end
def Bnd.point(b:Bnd)(k:Nat)(p:Int):Option Bnd:=if b.P k≠0/\b.P k≠p+1 then none else some (b.setP k (p+1))
def Bnd.segment(b:Bnd)(k:Nat)(s:Int×Int):Option Bnd:=if ¬(b.S1 k=0/\b.S2 k=0)/\ ¬(b.S1 k=s.1+1/\b.S2 k=s.2+1) then none else some (b.setS k (s.1+1) (s.2+1))
def KI(b:Bnd)(o:Option Bnd):R:= .tup [.agg (o.getD b).rs,.c (.d (.bool o.isSome))]
theorem UK(b:Bnd)(k:Nat)(h:k<26)(p:Int)(m: -1<=p/\p<1000000):
  CallsF prog 282 [.agg b.ds,.c (.int .u8 ((65+k:Nat):Int)),.c (.int .i64 p)] (KI b (b.point k p)):=by
 have i:(((65+k:Nat):Int) - 65)%256=(k:Int):=O;have g:=Bnd.get_p b h;have a:=Bnd.set_p b h (p+1);have j:b.point k p=if b.P k≠0/\b.P k≠p+1 then none else some (b.setP k (p+1)):=rfl;rw[j];generalize b.P k=v at*;generalize b.setP k (p+1)=l at*;unfold KI;refine cO func282 rfl ?_;simp -implicitDefEqProofs[jJ,-qA,-qB,-qC,-qD,-qE,-aD,i,g,-qF];by_cases e:v=0
 ·simp -implicitDefEqProofs[jJ,-qA,-qB,-qC,-qD,-qE,-aD,e,a,-qF];omega
 ·by_cases f:v=p+1
  ·simp -implicitDefEqProofs[jJ,-qA,-qB,-qC,-qD,-qE,-aD,f,a,-qF];omega
  ·simp -implicitDefEqProofs[jJ,-qA,-qB,-qC,-qD,-qE,-aD,e,f,a,-qF];omega
theorem jyt(b:Bnd)(k:Nat)(e:k<26)(p q:Int)(r: -1<=p/\p<1000000)(t: -1<=q/\q<1000000):
  CallsF prog 353 [.agg b.ds,.c (.int .u8 ((97+k:Nat):Int)),.agg [.int .i64 p,.int .i64 q]] (KI b (b.segment k (p,q))):=by
 have i:(((97+k:Nat):Int) - 97)%256=(k:Int):=O;have g:=Bnd.get_s b e;have m:=Bnd.set_s b e (p+1) (q+1);have l:b.segment k (p,q)=if ¬(b.S1 k=0/\b.S2 k=0)/\ ¬(b.S1 k=p+1/\b.S2 k=q+1) then none else some (b.setS k (p+1) (q+1)):=rfl;rw[l];generalize b.S1 k=f at*;generalize b.S2 k=h at*;generalize b.setS k (p+1) (q+1)=o at*;unfold KI;refine cO func353 rfl ?_;simp -implicitDefEqProofs[jJ,-qA,-qB,-qC,-qD,-qE,-aD,i,-qF];refine⟨O,O,e,?_⟩
 refine AA (Ah [0,1,3,0,15,31,63,127,255,63,1023,2047]) [.any [] [] (Aq [[9],[21],[22],[]]),.one,.one,.any [] [] (Aq [[9,26],[27,26],[28,26],[8,26]]),.one,.one] O5 ?_;simp -implicitDefEqProofs[jJ,-qA,-qB,-qC,-qD,-qE,-aD,g,-qF];have j:k<=25:=O;have a:26+k*2<=76:=O;rcases Classical.propComplete (f=0)with a1|a1<;>rcases Classical.propComplete (h=0)with a2|a2<;>rcases Classical.propComplete (f=p+1)with b1|b1<;>rcases Classical.propComplete (h=q+1)with b2|b2<;>
  simp -implicitDefEqProofs[jJ,-qA,-qB,-qC,-qD,-qE,-aD,a1,a2,b1,b2,m,a,-qF]
theorem ji8(c:Nat):CallsF prog 286 [.c (.int .u8 (c:Int))] (.u (.c (.d (.bool (decide (97<=c)))))):=by
 refine cO func286 rfl ?_;exact kC
@[simp]theorem bs_size(l:List UInt8):(bs l).size=l.length:=by simp[bs,ByteArray.size]
theorem jmY(l:List UInt8)(i:Nat):(bs l)[i]? =l[i]? :=by
 by_cases h:i<l.length
 ·rw[getElem?_pos (bs l) i (by simpa using h),AD h];congr 1
 ·rw[getElem?_neg (bs l) i (by simpa using h),B9 O]
@[simp]theorem bs_getE(l:List UInt8)(i:Nat)(h:i<(bs l).size):(bs l)[i]=l[i]'(by simpa using h):=rfl
theorem jtd(l:List UInt8): ∀(n i:Nat) (r:List UInt8),n=l.length - i->i<=l.length->ByteArray.toList.loop (bs l) i r=r.reverse++l.drop i
 |0,i,r,h,hi=>by
  unfold ByteArray.toList.loop;rw[if_neg (by simp;omega),DU O,List.append_nil]
 |n+1,i,r,h,hi=>by
  have a:i<l.length:=O;unfold ByteArray.toList.loop;rw[if_pos (by simpa using a),jtd l n (i+1) _ O O];have e:(bs l).get! i=l[i]:=by simp[ByteArray.get!,bs,a]
  rw[e,BQ a];simp
@[simp]theorem jsq(l:List UInt8):(bs l).toList=l:=by
 unfold ByteArray.toList;rw[jtd l l.length 0 [] rfl (Nat.zero_le _)];simp
theorem jmx(l:List UInt8)(n:Nat)(h:n<=l.length):(bs l).extract n (n+(l.length - n))=bs (l.drop n):=by
 unfold bs;apply ByteArray.ext;apply Array.ext';simp[ByteArray.extract,ByteArray.copySlice];exact Ba O1
def Pq(c:UInt8):Prop:=(65<=c.toNat/\c.toNat<91)\/(97<=c.toNat/\c.toNat<123)
def Bnd.Ok(b:Bnd):Prop:= ∀x∈b.v,0<=x/\x<2000000
theorem Bnd.Ok.p{b:Bnd}(h:b.Ok)(e:k<26):0<=b.P k/\b.P k<2000000:=by
 have a:k<b.v.length:=by rw[b.h];omega
 refine h _ ?_;simp[Bnd.P,a]
theorem Bnd.Ok.s{b:Bnd}(h:b.Ok)(f:k<26):(0<=b.S1 k/\b.S1 k<2000000)/\(0<=b.S2 k/\b.S2 k<2000000):=by
 have a:26+k*2<b.v.length:=by rw[b.h];omega
 have e:26+k*2+1<b.v.length:=by rw[b.h];omega
 refine⟨h _ ?_,h _ ?_⟩
 ·simp[Bnd.S1,a]
 ·simp[Bnd.S2,e]
def QT(b:Bnd)(c:UInt8):List Int:=if 97<=c.toNat then [b.S1 (c.toNat - 97) - 1,b.S2 (c.toNat - 97) - 1] else [b.P (c.toNat - 65) - 1]
def Jg(b:Bnd)(l:List UInt8):List Int:=l.flatMap (QT b)
theorem jr7(b:Bnd)(v:b.Ok)(l:List UInt8)(y: ∀c∈l,Pq c)(F:l.length<=1000):
  CallsF prog 186 [.agg b.ds,.c (.str (bs l))] (.u (.c (.own 1 (Jg b l).length ((Jg b l).map i64)))):=by
 have j: ∀n,(Jg b (l.take n)).length<=2*n:=λn=>by
  have: ∀l:List UInt8,(Jg b l).length<=2*l.length:=λl=>by
   unfold Jg
   induction l with
   |nil=>simp
   |cons c r G=>
    have:(QT b c).length<=2:=by unfold QT;split<;>simp
    rw[List.flatMap_cons,List.length_append,List.length_cons];omega
  exact Nat.le_trans (this _) (by rw[A8];omega)
 refine cO func186 rfl ?_;simp -implicitDefEqProofs[jJ,-qA,-qB,-qC,-qD,-qE,-qF];refine CE [(5,32),(5,41)] (λi:Nat=>⟨[(11,vI .i64 i),(10,vI .i64 l.length),(5,vC (.sl 5 0 (Jg b (l.take i)).length)),(2,vC (.ptr 2 0)),(1,vC (.d (.str (bs l))))],[(5,.row 1 ((Jg b (l.take i)).map i64) true),(2,.box b.cs)]⟩)
  (λi=>i<=l.length) (λi=>l.length - i) 0 (by simp[Jg]) O ?_
 rintro i hi;by_cases h:i<l.length
 ·have e:Jg b (l.take (i+1))=Jg b (l.take i)++QT b l[i]:=by
   rw[Cr h];unfold Jg;rw[aI];simp
  have E:=j i;have q:=y l[i] (AZ h);have z:(bs l)[i]? =some l[i]:=by rw[jmY,AD h]
  simp -implicitDefEqProofs[jJ,-qA,-qB,-qC,-qD,-qE,h,-qF];refine Ac (ji8 l[i].toNat) ?_;by_cases g:97<=l[i].toNat
  ·obtain⟨k,hk⟩: ∃k,l[i].toNat=97+k:=⟨l[i].toNat - 97,O⟩
   have a:k<26:=by unfold Pq at q;omega
   have o:=Bnd.get_s b a;have x:=v.s a;have m:(((97+k:Nat):Int) - 97)%256=(k:Int):=O;have f:QT b l[i]=[b.S1 k - 1,b.S2 k - 1]:=by unfold QT;rw[if_pos g,hk];simp
   simp -implicitDefEqProofs[jJ,-qA,-qB,-qC,-qD,-qE,hk,o,m,-qF];exact⟨a,O,O,O,O,O,i+1,⟨⟨rfl,by rw[e,f];simp⟩,by rw[e,f];simp[i64]⟩,O,O⟩
  ·obtain⟨k,hk⟩: ∃k,l[i].toNat=65+k:=⟨l[i].toNat - 65,by unfold Pq at q;omega⟩
   have a:k<26:=by unfold Pq at q;omega
   have o:=Bnd.get_p b a;have x:=v.p a;have m:(((65+k:Nat):Int) - 65)%256=(k:Int):=O;have f:QT b l[i]=[b.P k - 1]:=by unfold QT;rw[if_neg g,hk];simp
   have w:(97<=65+k)=False:=by simp;omega
   simp -implicitDefEqProofs[jJ,-qA,-qB,-qC,-qD,-qE,w,hk,o,m,-qF];exact⟨a,O,O,O,i+1,⟨⟨rfl,by rw[e,f];simp⟩,by rw[e,f];simp[i64]⟩,O,O⟩
 ·have t:i=l.length:=O;subst t;simp -implicitDefEqProofs[jJ,-qA,-qB,-qC,-qD,-qE,-qF]
end Go.Va
namespace Go.Va
open Go.Proofs Go.Shelf Go.RowKit Go.Lib Go.Sort
def Grd.fct(g:Grd):Fct:=⟨g.kind,g.args,false,[],[]⟩
def cmpG(a b:Grd):Int:=cmpK a.fct b.fct
def Grd.Short(g:Grd):Prop:=g.args.length<=1000000
theorem jsX:IsCmp Grd.Short cmpG:=⟨λx y _ _=>isCmp_K.rng _ _ trivial trivial,λx y _ _=>isCmp_K.anti _ _ trivial trivial,λx y z _ _ _=>isCmp_K.tr _ _ _ trivial trivial trivial⟩
theorem cmpG_zero{a b:Grd}:cmpG a b=0↔a=b:=by
 unfold cmpG;rw[cmpK_zero];cases a;cases b;simp[Grd.fct]
theorem jmw[DrC](a b:Grd)(g:a.Short)(h:b.Short):CallsF Tryz.prog 181 [.agg a.ds,.agg b.ds] (.u (.c (.d (.int .i64 (cmpG a b))))):=by
 have i:=jbL a.kind b.kind;have j:=jjh a.args b.args (by unfold Grd.Short at g;omega) (by unfold Grd.Short at h;omega);have f:CallsF Tryz.prog 56 [.c (.slice 2 [.int .i64 (Nk a.kind b.kind),.int .i64 (D1 a.args b.args)])] _:=jc4 [Nk a.kind b.kind,D1 a.args b.args] O1;have e:cmpG a b=It [Nk a.kind b.kind,D1 a.args b.args]:=rfl;rw[<-e]at f;generalize cmpG a b=r at*;refine cO Tryz.func181 rfl ?_;simp only[Grd.ds];refine rA ?_;refine AA (Ah [0,1,0,4,15,0,32,0,128,511,1023,2047,4095]) [.any [] [] (Aq [[2],[5],[3],[7],[6,8],[2],[10],[3],[12]]),.one,.one,.one,.one] O5 ?_;refine rA ?_;refine aA i ?_;refine aA j ?_;refine Ac f ?_;exact kA
theorem jxr[DrC](a b:Grd)(e:a.Short)(f:b.Short):CallsF Tryz.prog 354 [.agg a.ds,.agg b.ds] (.u (.c (.d (.bool (decide (cmpG a b=0)))))):=by
 have k:=jmw a b e f;simp only[Grd.ds]at k;refine cO Tryz.func354 rfl ?_;simp only[Grd.ds];refine rA ?_;refine Ac k ?_;exact kA
def XL(l:List Grd):List Grd:=Q0 cmpG l
theorem jx7[DrC](i:Nat)(l:List Grd)(app:Bool)(a:l.length<=1099511627776)(b: ∀g∈l,g.Short):
  Fw Tryz.prog 21 [.c (.sl i 0 l.length),.c (.d (.fn 181 []))] [(i,.row 2 (l.flatMap Grd.ds) app)] [(i,.row 2 ((XL l).flatMap Grd.ds) app)] (.tup []):=
 jiC O Grd.ds_len jsX (λx _=>cmpG_zero.2 rfl) (λx y _ _ h=>cmpG_zero.1 h) Tryz.laysSG rfl ⟨_,Tryz.func21,rfl,O2⟩ Tryz.isAgg46 Tryz.sizeOf46 181
  (enters_of Tryz.func181 O4 rfl) (λx y e f=> @jmw jd6 x y e f) i l app a b
end Go.Va
