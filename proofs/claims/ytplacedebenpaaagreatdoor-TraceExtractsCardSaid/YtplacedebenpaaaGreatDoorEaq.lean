/- a part of the proof -/
import Derived.Test.YtplacedebenpaaaGreatDoorEao
import Derived.Test.YtplacedebenpaaaGreatDoorEap
import Derived.Test.YtplacedebenpaaaGreatDoorEzL
import Derived.Test.YtplacedebenpaaaGreatDoorEan
set_option linter.all false
set_option maxHeartbeats 4000000
set_option maxRecDepth 10000
namespace Go.Va
open _root_.List renaming map_set → aD, map → aH, length_append → aJ, length_drop → aL, take → aP
open _root_.Nat renaming mul_one → aG, eq_zero_or_pos → aI, lt_or_ge → aM, sub_self → aN, pow_pos → aO
open Int renaming natCast_add → qA, natCast_mul → qB, natCast_emod → qC, natCast_ediv → qD, natCast_pow → qE
open Go.Proofs
def Q2:List (List Nat):=(Ah [0,0,0,0,12,28,63,0,0,256,1023])
@[simp]def jpm:List Seg:=[.any [] [] (Aq [[2],[7],[7],[5],[80,81],[82],[78,79,83],[3],[9],[86]]),.one]
def OU:List (List Nat):=(Ah [0,0,0,0,12,28,63,0,255])
@[simp]def Q7:List Seg:=[.any [] [] (Aq [[2],[7],[7],[5],[93,94],[95],[91,92,96],[3]]),.one]
variable{α:Type}
theorem jkB{w v:List Nat}(l:Ok w)(e:Ok v)(j:w.length=v.length+1)(b:2<=v.length)(h:32768<=v.getD (v.length - 1) 0)(i:val w<65536*val v):(w.getD v.length 0*65536+w.getD (v.length - 1) 0)/v.getD (v.length - 1) 0<=65537:=by
 obtain⟨f,m⟩:=Hm rfl b e;obtain⟨g,o⟩:=MD j b l;have k:0<65536^(v.length - 2):=aO O;have a:v.getD (v.length - 2) 0<65536:=by
  rw[AL,AD O];exact e _ (AZ _)
 exact Ni g f m a i h k
theorem jf2{w v:List Nat}(p:Ok w)(m:Ok v)(j:w.length=v.length+1)(o:2<=v.length)(y:32768<=v.getD (v.length - 1) 0)(g:val w<65536*val v):
  (D7 (v.getD (v.length - 1) 0) (w.getD (v.length - 2) 0) (v.getD (v.length - 2) 0) 65538 ((w.getD v.length 0*65536+w.getD (v.length - 1) 0)/v.getD (v.length - 1) 0) ((w.getD v.length 0*65536+w.getD (v.length - 1) 0)%v.getD (v.length - 1) 0)).1<=65536:=by
 obtain⟨e,q⟩:=Hm rfl o m;obtain⟨f,r⟩:=MD j o p;have z:0<65536^(v.length - 2):=aO O;have b:0<val v:=by
  have:1*(65536*65536^(v.length - 2))<=v.getD (v.length - 1) 0*(65536*65536^(v.length - 2)):=BC _ O;omega
 have h: ∀(l:List Nat) i,Ok l->l.getD i 0<65536:=λl i j=>by
  rcases aM i l.length with hi|hi
  ·rw[AL,AD hi];exact j _ (AZ hi)
  ·rw[AL,B9 hi];simp
 have t:=QI f e r (h w _ p) O;have x:=Ni f e q (h v _ m) g y z;have k:(w.getD v.length 0*65536+w.getD (v.length - 1) 0)/v.getD (v.length - 1) 0*v.getD (v.length - 1) 0+(w.getD v.length 0*65536+w.getD (v.length - 1) 0)%v.getD (v.length - 1) 0=w.getD v.length 0*65536+w.getD (v.length - 1) 0:=by
  rw[Nat.mul_comm];exact Nat.div_add_mod _ _
 have a:=K8 f e r q (h v _ m) g b O 65538 _ _ k x t O;have:val w/val v<65536:=by rw[Nat.div_lt_iff_lt_mul b];exact g
 omega
theorem KJ{β:Type}(f:α->β)(k:Nat)(s l:List α):splice k (s.map f) (l.map f)=(splice k s l).map f:=by
 unfold splice;simp
theorem Sx(w v:List Nat)(q:Nat):EA w v q=if 0<(subL q w v 0 0).2.1 then (q - 1,(Ap (subL q w v 0 0).1 v 0).1) else (q,(subL q w v 0 0).1):=rfl
theorem PK{q:Nat}{w v:List Nat}(j:q<=65536)(l:Ok w)(k:Ok v)(i:v.length<=w.length)(h:0<(subL q w v 0 0).2.1):0<q:=by
 rcases aI q with h0|h0
 ·subst h0;exfalso;obtain⟨m,o,p,g⟩:=GO j w v 0 0 l k i O O;have f:=Bz _ m;rw[EE]at f;rw[Nat.zero_mul]at g;generalize subL 0 w v 0 0=S at*;obtain⟨a,b,c⟩:=S;simp only at*;generalize 65536^w.length=P at*;have:P*1<=P*(b+c):=Nat.mul_le_mul_left _ O;have e:(P:Int)*((b:Int)+c)=((P*(b+c):Nat):Int):=by
   rw[Int.natCast_mul,Int.natCast_add]
  rw[e]at g;omega
 ·exact h0
theorem RL(k:Nat)(s l:List α)(h:k+s.length<=l.length):cut k s.length (splice k s l)=s:=by
 unfold cut splice;have a:(l.take k).length=k:=by rw[A8];omega
 rw[List.append_assoc,List.drop_append,a,DU (by omega:(l.take k).length<=k),aN,List.nil_append,List.drop_zero,List.take_append,Ba (AO _),aN,List.take_zero,List.append_nil]
theorem UX(k:Nat)(a s l:List α)(b:a.length=s.length)(h:k+s.length<=l.length):splice k a (splice k s l)=splice k a l:=by
 apply List.ext_getElem?;intro j;have e:(splice k s l).length=l.length:=by
  unfold splice;simp only[aJ,A8,aL];omega
 rw[Df _ _ _ O,Df _ _ _ O,Df _ _ _ O,b];split<;>rfl
theorem Nl(k:Nat)(s l:List α)(h:k+s.length<=l.length):(splice k s l).length=l.length:=by
 unfold splice;simp only[aJ,A8,aL];omega
theorem VI{u v:List Nat}(q:Ok u)(l:Ok v)(i:2<=v.length)(h:32768<=v.getD (v.length - 1) 0)(m:v.length<u.length)(p:val (u.drop (u.length - v.length))<val v)(M:Nat)(r:M=u.length - v.length):
  ∃(a e:Nat->List Nat) (J:Nat->Int),a 0=u/\e 0=List.replicate M 0/\a M=(Cs u v M).1/\
  (∀k (_:k<M) (j:Nat),J k=j->a (k+1)=splice j (CT (cut j (v.length+1) (a k)) v).2 (a k))/\
  (∀k (_:k<M) (j:Nat),J k=j->e (k+1)=(e k).set j (CT (cut j (v.length+1) (a k)) v).1)/\
  J 0=(M:Int) - 1/\(∀k,k<M-> ∃j:Nat,J k=j/\j+1+k=M)/\J M= -1/\(∀k,k<M->J (k+1)=J k - 1)/\((e M).length=M/\Ok (e M)/\val (e M)=val u/val v)/\
  ∀k,k<M->(a k).length=u.length/\(e k).length=M/\Ok (a k)/\ ∀j:Nat,J k=j->val (cut j (v.length+1) (a k))<65536*val v/\(cut j (v.length+1) (a k)).length=v.length+1/\Ok (cut j (v.length+1) (a k))/\(CT (cut j (v.length+1) (a k)) v).1<65536:=by
 subst r;have f: ∀k (_:k<u.length - v.length) (j:Nat),((u.length - v.length:Nat):Int) - 1 - k=j->j=u.length - v.length - 1 - k:=λk b j g=>O;refine⟨λk=>(Cs u v k).1,λk=>(Cs u v k).2,λk=>((u.length - v.length:Nat):Int) - 1 - k,rfl,rfl,rfl,λk b j g=> ?_,λk b j g=> ?_,O1,λk b=>⟨u.length - v.length - 1 - k,by simp only;omega,O⟩,by simp only;omega,λk b=>by simp only;omega,⟨(Gj q l i h m p _ (AO _)).lo,(Gj q l i h m p _ (AO _)).oo,(K9 q l i h m p).1⟩,λk b=> ?_⟩
 ·rw[f k b j g];rfl
 ·rw[f k b j g];rfl
 ·have o:=Gj q l i h m p k O;refine⟨o.lu,o.lo,o.ou,λj g=> ?_⟩;rw[f k b j g];have:=Pj l i h b o;exact⟨this.2.1,this.2.2.1,this.2.2.2.1,this.2.2.2.2⟩
theorem jet[DrC](i:Nat)(cs:List Nat)(app:Bool)(u v:List Nat)(R0:List (Nat×Blk))(hR: ∀j b,lk j R0=some b->j≠i/\ ∃sz cs app,b= .row sz cs app)
  (hu:Ok u) (r:Ok v) (hn:2<=v.length) (h1:32768<=v.getD (v.length - 1) 0) (hl:v.length<u.length) (ht:val (u.drop (u.length - v.length))<val v) (hul:u.length<=1000) (L:cut 0 u.length cs=u) (hoff:u.length<=cs.length):
  Fw Tryz.prog 367 (.c (.sl i 0 u.length)::[Ad v].map λd=> .c (.d d)) ((i,.row 1 (cs.map u16) app)::R0)
   ((i,.row 1 (splice (0*1) ((Cs u v (u.length - v.length)).1.map u16) (cs.map u16)) app)::R0) (.u (.c (.d (Ad (limbs (val u/val v)))))):=by
 have hst:=Gj hu r hn h1 hl ht;have hend:=hst _ (AO _);have hval:=K9 hu r hn h1 hl ht;refine YK (T:=tb) Ak mixed Tryz.func367 rfl O2 (Al rfl) rfl rfl ?_ ?_ ?_ ?_ ?_ ?_
 ·omega
 ·simp;omega
 ·simp[hend.lu]
 ·intro x hx;obtain⟨y,_,rfl⟩:=jzk.1 hx;rfl
 ·exact hR
 ·have ec:cut (0*1) (u.length*1) (cs.map u16)=u.map u16:=by
   rw[aG,aG];unfold cut at L ⊢;rw[<-List.map_drop,<-List.map_take,L]
  rw[ec];unfold St.initS;have e0:(u.length:Int) - v.length=((u.length - v.length:Nat):Int):=O;simp -implicitDefEqProofs[jJ,-qA,-qB,-qC,-qD,-qE,-aD,BK,e0];refine⟨O,O,O,O,?_⟩;obtain⟨M,hM⟩: ∃M,M=u.length - v.length:=⟨_,rfl⟩
  obtain⟨UU,K,J,hU0,hO0,hUn,hUs,hOs,hJ0,hJ,hJn,hJs,⟨hOl,hOo,hOv⟩,Z⟩:=VI hu r hn h1 hl ht M hM;rw[<-hM,<-hUn];refine AV (λk:Nat=>⟨[(7,vC (.ptr 7 0)),(6,vC (.sl 18 0 M)),(5,vC (.ptr 5 0)),(3,vC (.ptr 3 0)),(2,vC (.ptr 2 0)),(0,vC (.sl 2000000 0 u.length))],
   [(7,.box [.d (.int .i64 (J k))]),(18,.row 1 ((K k).map u16) true),(5,.box [.d (.int .i64 v.length)]),(3,.box [.d (Ad v)]),(2,.box [.sl 2000000 0 u.length]),(2000000,.row 1 ((UU k).map u16) false)]⟩) (λk=>k<=M) (λk=>M - k) 0 (by simp[AW,lk,St.le,vC,hU0,hO0,hJ0,u16,hM]) O ?_
  rintro k hk;by_cases h:k<M
  ·obtain⟨j,hj,hj2⟩:=hJ k h;have F:=hJs k h;obtain⟨N,hol,hou,Z⟩:=Z k h;obtain⟨hQ,W,I,f⟩:=Z j hj;have l:=hUs k h j hj;have g:=hOs k h j hj;rw[hj]at F ⊢;generalize UU k=U at*;generalize K k=a at*;generalize hw:cut j (v.length+1) U=w at*;have gw: ∀t,t<v.length+1->U[j+t]? =some (w.getD t 0):=λt ht=>by
    rw[<-hw];unfold cut;rw[AL,List.getElem?_take,if_pos ht,List.getElem?_drop,AD O];rfl
   have gl: ∀t,w.getD t 0<65536:=λt=>by
    rcases aM t w.length with hi|hi
    ·rw[AL,AD hi];exact I _ (AZ hi)
    ·rw[AL,B9 hi];simp
   have gv:v[v.length - 1]? =some (v.getD (v.length - 1) 0):=by
    rw[AL,AD O];rfl
   have lv:v.getD (v.length - 1) 0<65536:=by
    rw[AL,AD O];exact r _ (AZ _)
   have g1:=gw v.length O;have g2:=gw (v.length - 1) O;rw[show j+(v.length - 1)=j+v.length - 1 by omega]at g2;have n1:((j+v.length:Nat):Int) - 1=((j+v.length - 1:Nat):Int):=O;have n2:(v.length:Int) - 1=((v.length - 1:Nat):Int):=O;have eo:CT w v=EA w v (D7 (v.getD (v.length - 1) 0) (w.getD (v.length - 2) 0) (v.getD (v.length - 2) 0) 65538 ((w.getD v.length 0*65536+w.getD (v.length - 1) 0)/v.getD (v.length - 1) 0) ((w.getD v.length 0*65536+w.getD (v.length - 1) 0)%v.getD (v.length - 1) 0)).1:=rfl;have gb:=jkB I r W hn h1 hQ;have gf:=jf2 I r W hn h1 hQ;have e2:U.getD (j+v.length - 2) 0=w.getD (v.length - 2) 0:=by
    have:=gw (v.length - 2) O;rw[show j+(v.length - 2)=j+v.length - 2 by omega]at this;rw[AL,this];rfl
   have l1:=gl v.length;have l2:=gl (v.length - 1);generalize w.getD v.length 0=X at*;generalize w.getD (v.length - 1) 0=P at*;generalize v.getD (v.length - 1) 0=z at*;have oh:=QM X P O l2;have m1:X%18446744073709551616=X:=AX O;have m2:P%18446744073709551616=P:=AX O;have m3:z%18446744073709551616=z:=AX O;refine rC ?_;refine AA (Ah [0,0,0,6,15,31,63,127,0,0,0,1536,3584,7936,16128,32512,65535,131071]) [.any [] [] (Aq [[2],[7],[5],[29,30],[28,31],[32],[33],[34],[2],[7],[5],[37,38],[39],[36,40],[41],[42]]),.one,.one] O5 ?_;simp -implicitDefEqProofs[jJ,-qA,-qB,-qC,-qD,-qE,-aD,g1,g2,n1,oh,m1,m2,u16];refine⟨O,O,O,O,O,?_⟩;refine AA (Ah [0,0,0,4,14,30,62,127,0,0,0,1024,3584,7680,15872,32512,0,0,196863,524287]) [.any [] [9,10] [⟨0,[8],[9,10],[9,10],[]⟩,⟨0,[3],[9,10],[9,10],[]⟩,⟨0,[5],[9,10],[9,10],[]⟩,⟨0,[47],[9,10],[9,10],[]⟩,⟨0,[46,48],[9,10],[9,10],[]⟩,⟨0,[49],[9,10],[9,10],[]⟩,⟨0,[50],[9,10],[9,10],[]⟩,⟨0,[45,51],[9,10],[9,10],[]⟩,⟨0,[8],[9,10],[9,10],[]⟩,⟨0,[3],[9,10],[9,10],[]⟩,⟨0,[5],[9,10],[9,10],[]⟩,⟨0,[55],[9,10],[9,10],[]⟩,⟨0,[54,56],[9,10],[9,10],[]⟩,⟨0,[57],[9,10],[9,10],[]⟩,⟨0,[58],[9,10],[9,10],[]⟩,⟨0,[53,59],[9,10],[9,10],[]⟩,⟨1,[],[10],[10],[]⟩,⟨1,[],[9],[9],[]⟩,⟨2,[9,52],[],[],[9]⟩],.one] O5 ?_;have nz: ¬z=0:=O;have q32:(X*65536+P)/z%18446744073709551616=(X*65536+P)/z:=AX O;have r16:(X*65536+P)%z<z:=Nat.mod_lt _ O;simp -implicitDefEqProofs[jJ,-qA,-qB,-qC,-qD,-qE,-aD,gv,n2,m3,nz,u16,q32];refine⟨O,O,O,O,?_⟩;clear q32;generalize (X*65536+P)/z=q0 at*;generalize (X*65536+P)%z=r0 at*;generalize w.getD (v.length - 2) 0=w2 at*;obtain⟨Q,R,hQt,hRt⟩: ∃Q R:Nat->Nat,(∀t,Q t=q0 - t)/\ ∀t,R t=r0+t*z:=⟨λt=>q0 - t,λt=>r0+t*z,λ_=>rfl,λ_=>rfl⟩
   have hQ0:=hQt 0;have hR0:=hRt 0;obtain⟨v2,hv2e⟩: ∃v2,v2=v.getD (v.length - 2) 0:=⟨_,rfl⟩;rw[<-hv2e]at eo gf;generalize hA:D7 z w2 v2 65538 q0 r0=A at*;refine AV (λt:Nat=>⟨[(9,vC (.ptr 9 0)),(10,vC (.ptr 10 0)),(11,.u (.clo 387 [.ptr 9 0,.ptr 3 0,.ptr 5 0,.ptr 10 0,.ptr 2 0,.ptr 7 0])),(7,vC (.ptr 7 0)),(6,vC (.sl 18 0 M)),(5,vC (.ptr 5 0)),(3,vC (.ptr 3 0)),(2,vC (.ptr 2 0)),(0,vC (.sl 2000000 0 u.length))],
    [(9,.box [.d (.int .u64 (Q t))]),(10,.box [.d (.int .u64 (R t))]),(7,.box [.d (.int .i64 j)]),(18,.row 1 (a.map u16) true),(5,.box [.d (.int .i64 v.length)]),(3,.box [.d (Ad v)]),(2,.box [.sl 2000000 0 u.length]),(2000000,.row 1 (U.map u16) false)]⟩)
    (λt=>t<=q0/\D7 z w2 v2 (65538 - t) (Q t) (R t)=A/\R t<=131070) (λt=>q0 - t) 0 (by simp[AW,lk,St.le,vC,hQ0,hR0]) ⟨O,by rw[hQ0,hR0];simpa using hA,O⟩ ?_
   rintro t ⟨ht1,p,ht3⟩;have hQ1:=hQt t;have hQ2:=hQt (t+1);have hR1:=hRt t;have hR2:=hRt (t+1);rw[Nat.add_mul,Nat.one_mul]at hR2;have ef:65538 - t=(65537 - t)+1:=O;rw[ef,D7]at p;by_cases c1:R t<65536
   ·have kg:=jkn (Q t) (R t) v.length j U v hn rfl O O hou r O c1;rw[e2,<-hv2e]at kg;have eg:(decide (65536<=Q t)||decide (R t*65536+w2<Q t*v2))=Fu (Q t) (R t) w2 v2:=rfl;rw[eg]at kg;have et:aP u.length (aH u16 U)=aH u16 U:=Ba (by simp[N]);have en:D.slice u.length (aH u16 U)=Ad U:=by
     show _=D.slice U.length _;rw[N]
    simp -implicitDefEqProofs[jJ,-qA,-qB,-qC,-qD,-qE,-aD,c1,et,en];refine .inl ⟨O,_,kg,?_⟩;cases hg:Fu (Q t) (R t) w2 v2 with
    |false=>
     rw[if_neg (by simp[hg])]at p;refine rC ?_;have hr:CT w v=EA w v (Q t):=by rw[eo,<-p]
     have q:Q t<=65536:=by rw[<-p]at gf;exact gf
     have hw0:w≠[]:=by intro e;rw[e]at W;simp at W
     have Y:cut j w.length U=w:=by rw[W];exact hw
     have q1:=OB 2000000 j U false w v (Q t) [] (λj b h=>by cases h) (.d (Ad v)) (.inl rfl) I r hw0 O O q Y O;have sj:j+v.length+1 - j=w.length:=O;have mq:Q t%4294967296=Q t:=AX O;have E:=Sx w v (Q t);rw[<-hr]at E;have sp: ∀s:List Nat,s.length=w.length->splice (j*1) (s.map u16) (U.map u16)=(splice j s U).map u16:=λs _=>by rw[aG];exact KJ u16 j s U
     rw[sp _ (EE _ _ _ _ _)]at q1;have H:=PK q I r (by omega:v.length<=w.length);have o:=EE (Q t) w v 0 0;have G:=(GO q w v 0 0 I r O O O).1;generalize subL (Q t) w v 0 0=S at*;obtain⟨s,b,c⟩:=S;simp only at E q1 H o G;have r1:=Rk 2000000 j (splice j s U) false s v [] (λj b h=>by cases h) (.d (Ad v)) (.inl rfl) G r (by intro e;rw[e]at o;simp at o;omega) O O (RL j s U O) (by rw[Nl _ _ _ O];omega);rw[aG,KJ,UX j _ s U (G5 _ _ _) O,o]at r1;refine AA Q2 jpm O5 ?_;refine rC2 sj mq ?_;refine⟨O,O,O,.inr (.inl (Hn q1 (by simp[DB,Go.Va.U.all,C.id?]) (by simp[lk]) ?_))⟩;simp -implicitDefEqProofs[jJ,-qA,-qB,-qC,-qD,-qE,-aD,St.backW];refine⟨λhb=> ?_,λhb=> ?_⟩
     ·have m:0<b:=O;have hqp:=H m;rw[if_pos m]at E;rw[E]at l g f;simp only at l g f;have sq:((Q t:Int) - 1)%18446744073709551616=((Q t - 1:Nat):Int):=O;have mo:(Q t - 1)%65536=Q t - 1:=AX f;refine rC1 sq ?_;refine AA OU Q7 O5 ?_;refine rC1 sj ?_;refine⟨O,O,O,.inr (.inl (Hn r1 (by simp[DB,Go.Va.U.all,C.id?]) (by simp[lk]) ?_))⟩;simp -implicitDefEqProofs[jJ,-qA,-qB,-qC,-qD,-qE,-aD,St.backW,mo];refine⟨O,O,O,k+1,⟨by rw[F],?_,by rw[l]⟩,O,O⟩;rw[Ck _ _ _ O,g]
     ·have m: ¬0<b:=O;rw[if_neg m]at E;rw[E]at l g f;simp only at l g f;have mo:Q t%65536=Q t:=AX f;refine rC1 mo ?_;refine⟨O,O,O,k+1,⟨by rw[F],?_,by rw[l]⟩,O,O⟩;rw[Ck _ _ _ O,g]
    |true=>
     rw[if_pos ⟨c1,hg⟩]at p;have hpos:0<Q t:=by
      rcases aI (Q t)with h0|h0
      ·rw[h0]at hg;simp[Fu]at hg
      ·exact h0
     have sq:((Q t:Int) - 1)%18446744073709551616=(Q (t+1):Nat):=O;have rr:(R t+z)%18446744073709551616=R (t+1):=O;refine rC1 sq ?_;refine AA (Ah [0,0,0,4,14,30,62,127,255]) [.any [] [] (Aq [[10],[3],[5],[72],[71,73],[74],[75]]),.one,.one] O5 ?_;simp -implicitDefEqProofs[jJ,-qA,-qB,-qC,-qD,-qE,-aD,gv,n2,m3,u16,rr];refine⟨O,O,t+1,⟨rfl,rfl⟩,⟨O,?_,O⟩,O⟩;rw[show 65538 - (t+1)=65537 - t by omega,show Q (t+1)=Q t - 1 by omega,show R (t+1)=R t+z by omega];exact p
   ·rw[if_neg (by simp[c1])]at p;refine rC1 c1 ?_;have hr:CT w v=EA w v (Q t):=by rw[eo,<-p]
    have q:Q t<=65536:=by rw[<-p]at gf;exact gf
    have hw0:w≠[]:=by intro e;rw[e]at W;simp at W
    have Y:cut j w.length U=w:=by rw[W];exact hw
    have q1:=OB 2000000 j U false w v (Q t) [] (λj b h=>by cases h) (.d (Ad v)) (.inl rfl) I r hw0 O O q Y O;have sj:j+v.length+1 - j=w.length:=O;have mq:Q t%4294967296=Q t:=AX O;have E:=Sx w v (Q t);rw[<-hr]at E;have sp: ∀s:List Nat,s.length=w.length->splice (j*1) (s.map u16) (U.map u16)=(splice j s U).map u16:=λs _=>by rw[aG];exact KJ u16 j s U
    rw[sp _ (EE _ _ _ _ _)]at q1;have H:=PK q I r (by omega:v.length<=w.length);have o:=EE (Q t) w v 0 0;have G:=(GO q w v 0 0 I r O O O).1;generalize subL (Q t) w v 0 0=S at*;obtain⟨s,b,c⟩:=S;simp only at E q1 H o G;have r1:=Rk 2000000 j (splice j s U) false s v [] (λj b h=>by cases h) (.d (Ad v)) (.inl rfl) G r (by intro e;rw[e]at o;simp at o;omega) O O (RL j s U O) (by rw[Nl _ _ _ O];omega);rw[aG,KJ,UX j _ s U (G5 _ _ _) O,o]at r1;refine AA Q2 jpm O5 ?_;refine rC2 sj mq ?_;refine⟨O,O,O,.inr (.inl (Hn q1 (by simp[DB,Go.Va.U.all,C.id?]) (by simp[lk]) ?_))⟩;simp -implicitDefEqProofs[jJ,-qA,-qB,-qC,-qD,-qE,-aD,St.backW];refine⟨λhb=> ?_,λhb=> ?_⟩
    ·have m:0<b:=O;have hqp:=H m;rw[if_pos m]at E;rw[E]at l g f;simp only at l g f;have sq:((Q t:Int) - 1)%18446744073709551616=((Q t - 1:Nat):Int):=O;have mo:(Q t - 1)%65536=Q t - 1:=AX f;refine rC1 sq ?_;refine AA OU Q7 O5 ?_;refine rC1 sj ?_;refine⟨O,O,O,.inr (.inl (Hn r1 (by simp[DB,Go.Va.U.all,C.id?]) (by simp[lk]) ?_))⟩;simp -implicitDefEqProofs[jJ,-qA,-qB,-qC,-qD,-qE,-aD,St.backW,mo];refine⟨O,O,O,k+1,⟨by rw[F],?_,by rw[l]⟩,O,O⟩;rw[Ck _ _ _ O,g]
    ·have m: ¬0<b:=O;rw[if_neg m]at E;rw[E]at l g f;simp only at l g f;have mo:Q t%65536=Q t:=AX f;refine rC1 mo ?_;refine⟨O,O,O,k+1,⟨by rw[F],?_,by rw[l]⟩,O,O⟩;rw[Ck _ _ _ O,g]
  ·have hk2:M=k:=O;subst hk2;rw[hJn];have kt:=Q1 (K M) hOo O;rw[hOv]at kt;have et:aP M (aH u16 (K M))=aH u16 (K M):=Ba (by simp[hOl]);have en:D.slice M (aH u16 (K M))=Ad (K M):=by
    show _=D.slice (K M).length _;rw[hOl]
   refine rC2 et en ?_;refine .inl ⟨O,_,kt,?_⟩;refine rC ?_;exact⟨.inl rfl,by simp[lk,BK,vC],by simp[lk,BK],vC (.d _),rfl,.inr ⟨_,rfl,rfl⟩⟩
end Go.Va
namespace Go.Va
open Go.Proofs
def RC.dat:RC->RC
 | .d x=> .d x
 | .own sz n a=> .d (.slice n (a.take (n*sz)))
def RU.dat:RU->RU
 | .c x=> .c x.dat
 | .agg cs=> .agg (cs.map RC.dat)
def R.dat:R->R
 | .u x=> .u x.dat
 | .tup xs=> .tup (xs.map RU.dat)
theorem RC.dat_rows(x:RC):x.dat.rows=[]:=by cases x<;>rfl
theorem RU.dat_rows(x:RU):x.dat.rows=[]:=by
 cases x with
 |c x=>exact RC.dat_rows x
 |agg b=>exact List.flatMap_eq_nil_iff.2 λy a=>by obtain⟨z,_,rfl⟩:=jzk.1 a;exact RC.dat_rows z
theorem R.dat_rows(x:R):x.dat.rows=[]:=by
 cases x with
 |u x=>exact RU.dat_rows x
 |tup b=>exact List.flatMap_eq_nil_iff.2 λy a=>by obtain⟨z,_,rfl⟩:=jzk.1 a;exact RU.dat_rows z
section
variable [Gv] {w w':World} {Z:Addr->Prop} {k:Nat} {o:Own} {bs:List Blk}
theorem RC.dat_rep(hZ: ∀l,Z l->l.block<w.heap.size)(ho: ∀l,o.has l->w.heap.size<=l.block)
  (hh:Heap (B3 k bs o) w' Z (match bs with|[]=>[]|b::_=>[(k,b)])) (hb:bs.length<=1) {x:RC} {v:Value} (J: ∀b∈x.rows,b∈bs)
  (h:RepC (B3 k bs o) w' Z (x.imp k) v) (ρ:AE) (m: ∀i,ρ i=none):RepC ρ w' Z (x.dat.imp k) v:=by
 have M:Keep w' w' (Ar (B3 k bs o) Z) (Ar ρ Z):=Keep.mono λa y=>by
  rcases y with y|⟨i,o',hi,_⟩
  ·exact .inl y
  ·rw[m]at hi;cases hi
 cases x with
 |d x=>exact RepD.keep M h
 |own q n g=>
  have N:(Blk.row q g true)∈bs:=J _ (by simp[RC.rows]);obtain⟨b,rfl⟩: ∃b,bs=[b]:=by
   match bs,hb,N with
   |[b],_,_=>exact⟨b,rfl⟩
  have z:Blk.row q g true=b:=by simpa using N
  subst z;obtain⟨S,r,Y⟩:=hh.rep k _ (Bt k _ _);have T:S=o:=by
   unfold B3 at r;simp only[if_true]at r;exact(Bi r).symm
  subst T;obtain⟨hs,L,hl,⟨hn1,H⟩,hc⟩:=Y;obtain⟨f,t,h4,h5⟩:=h;have W:f=S:=by
   unfold B3 at t;simp only[if_true]at t;exact(Bi t).symm
  subst W;show RepD w' (Ar ρ Z) (.slice n (g.take (n*q))) v;rcases h5 with⟨K,rfl,_,rfl⟩|⟨K,a,c,rfl,h7,h8,h9,X⟩
  ·have:(g.take (0*q))=[]:=O1;rw[this];exact .snil
  ·have p: ∀(j:Nat) (x:D),(g.take (n*q))[j]? =some x->g[j]? =some x/\a=f.at 0:=by
    intro j x e;rw[List.getElem?_take]at e;split at e
    ·rename_i G;refine⟨e,?_⟩;rcases h9 with h9|h9
     ·have:n=0:=O;subst this;simp at G
     ·simpa using h9
    ·cases e
   refine .slice n _ a c (λj=>(w'.cell? ⟨a.block,a.off+j,none⟩).getD undef) ?_ h7 h8 ?_ ?_ ?_
   ·intro I;obtain⟨x,J⟩:=List.exists_mem_of_ne_nil _ I;obtain⟨j,e⟩:=List.getElem?_of_mem J;rw[(p j x e).2]
   all_goals
    intro j x e;obtain⟨Q,k2⟩:=p j x e;obtain⟨u,P,hr⟩:=hc j x Q;subst k2;have E:(⟨(f.at 0).block,(f.at 0).off+j,none⟩:Addr)=f.at j:=by simp[Own.at]
   ·rw[E,P];rfl
   ·rw[E];have F:f.has (f.at j):=by
     refine⟨by rw[H];exact K,rfl,O1,?_⟩;have:=(jzg.1 Q).1;simp only;rw[hs];omega
    rintro (hz|⟨i,o',hi,_⟩)
    ·have:=hZ _ hz;have:=ho _ F;omega
    ·rw[m]at hi;cases hi
   ·rw[E,P];exact RepD.keep M hr
theorem RU.dat_rep(l: ∀a,Z a->a.block<w.heap.size)(q: ∀a,o.has a->w.heap.size<=a.block)
  (p:Heap (B3 k bs o) w' Z (match bs with|[]=>[]|b::_=>[(k,b)])) (m:bs.length<=1) {x:RU} {v:Value} (r: ∀b∈x.rows,b∈bs)
  (h:RepU (B3 k bs o) w' Z (x.imp k) v) (ρ:AE) (f: ∀i,ρ i=none):RepU ρ w' Z (x.dat.imp k) v:=by
 cases x with
 |c x=>exact RC.dat_rep l q p m r h ρ f
 |agg K=>
  obtain⟨I,E,F,G⟩:=h;refine⟨I,E,by simpa using F,λj y u t H=> ?_⟩;simp only[Bf,jze]at t;obtain⟨z,⟨J,e,rfl⟩,rfl⟩:=t;exact RC.dat_rep l q p m (λb g=>r b (List.mem_flatMap.2 ⟨J,BY e,g⟩)) (G j _ u (by simp[e]) H) ρ f
theorem R.dat_rep(t: ∀p,Z p->p.block<w.heap.size){r:R}{v:Value}(h:Hb w w' Z r v):Hb w w' Z r.dat v:=by
 obtain⟨g,o,m,J⟩:=h;refine⟨by rw[R.dat_rows];simp,o,m,λk=> ?_⟩;obtain⟨q,E⟩:=J k;rw[R.dat_rows];have a: ∀i,B3 k [] o i=none:=λi=>rfl;refine⟨?_,⟨⟨λj o e=>by(rw[a]at e;cases e),λj P o Q e=>by(rw[a]at e;cases e),λj o e=>by(rw[a]at e;cases e)⟩,λi b g=>by cases g⟩⟩;cases r with
 |u x=>exact RU.dat_rep t m E g (λb h=>h) q _ a
 |tup N=>
  obtain⟨L,G,H,I⟩:=q;refine⟨L,G,by simpa [R.dat,R.imp]using H,λj y u F K=> ?_⟩;simp only[Bf,jze]at F;obtain⟨z,⟨M,f,rfl⟩,rfl⟩:=F;exact RU.dat_rep t m E g (λb l=>List.mem_flatMap.2 ⟨M,BY f,l⟩) (I j _ u (by simp[f]) K) _ a
theorem CallsF.dat[DrC]{P:Program}{f:FuncId}{b:List A}{r:R}(h:CallsF P f b r):CallsF P f b r.dat:=
 ⟨h.1,λw Z vals a k=>(h.2 w Z vals a k).mono λe w' ⟨v,g,i,j⟩=>⟨v,g,i,R.dat_rep a j⟩⟩
end
end Go.Va
namespace Go.Va
open _root_.Nat renaming mul_le_mul_left → aD, pow_le_pow_right → aH, pow_add → aI, min_eq_left → aN, pow_succ → aT, pow_zero → aU, mul_one → aW
open _root_.List renaming take_append_drop → aG, drop_eq_getElem_cons → aJ, getElem?_eq_getElem → aL, length_take → aM, drop_of_length_le → aO, map_set → aP, take_append → aR, replicate → aS
open Int renaming natCast_add → qA, natCast_mul → qB, natCast_emod → qC, natCast_ediv → qD, natCast_pow → qE
open Go.Proofs Go.Proofs.Tryz
theorem Tp: ∀h:Fin 256,h.val<2^t8 h.val/\(h.val≠0->128<=h.val*2^(8 - t8 h.val))/\t8 h.val<=8/\(h.val≠0->0<t8 h.val):=O6
theorem QO{x:Nat}(j:x≠0)(o:x<65536):len16 x<=16/\0<len16 x/\32768<=x*2^(16 - len16 x)/\x*2^(16 - len16 x)<65536:=by
 unfold len16;split
 ·rename_i h;obtain⟨f,a,g,b⟩:=Tp ⟨x,h⟩;simp only at f a g b;have a:=a j;have b:=b j;generalize t8 x=t at*;have e:16 - t=8+(8 - t):=O;rw[e,aI,Nat.mul_left_comm];have i:2^t*2^(8 - t)=256:=by rw[<-aI,show t+(8 - t)=8 by omega]
  have k:x*2^(8 - t)<2^t*2^(8 - t):=Nat.mul_lt_mul_of_pos_right f O3;omega
 ·rename_i h;obtain⟨f,a,g,b⟩:=Tp ⟨x/256,O⟩;simp only at f a g b;have a:=a O;have b:=b O;generalize t8 (x/256)=t at*;rw[show 16 - (8+t)=8 - t by omega];have i:2^t*2^(8 - t)=256:=by rw[<-aI,show t+(8 - t)=8 by omega]
  have k:(x/256+1)*2^(8 - t)<=2^t*2^(8 - t):=BC _ f;rw[i]at k;have l:256*(x/256)*2^(8 - t)<=x*2^(8 - t):=BC _ O;have m:(x+1)*2^(8 - t)<=256*(x/256+1)*2^(8 - t):=BC _ O;grind
theorem ji3[DrC](x:Nat)(b:x≠0)(a:x<65536):CallsF prog 365 [.c (.int .u16 x)] (.u (.c (.d (.int .i64 (16 - len16 x:Nat))))):=by
 have k:=RW x a;have f:=QO b a;have e:(16:Int) - (len16 x:Nat)=((16 - len16 x:Nat):Int):=O;generalize len16 x=t at*;refine oC func365 ?_;refine Ac k ?_;refine rC1 e ?_;omega
theorem Mr{v:Nat}(h:v≠0):65536^((limbs v).length - 1)<=v:=by
 obtain⟨x,f,g,i⟩:=J9 h;have b:=Az v;generalize limbs v=l at*;have a:=(jzg.1 f).1;have e:l=l.take (l.length - 1)++[x]:=by
  grind[aJ,aO,aL,Option.some.inj,aG]
 rw[<-b]
 conv=>rhs;rw[e]
 rw[CF,A8,Bs O];have:65536^(l.length - 1)*1<=65536^(l.length - 1)*val [x]:=aD _ (by simp[val];omega);omega
theorem jjp{v n:Nat}(k:0<n)(i:65536^(n - 1)<=v)(j:v<65536^n):(limbs v).length=n:=by
 have b:v≠0:=O3;have e:=Mr b;have a:=Bz _ (Aw v);rw[Az]at a;have f:n - 1<(limbs v).length:=by
  apply Classical.byContradiction;intro h;have:65536^(limbs v).length<=65536^(n - 1):=aH O O;omega
 have g:(limbs v).length - 1<n:=by
  apply Classical.byContradiction;intro h;have:65536^n<=65536^((limbs v).length - 1):=aH O O;omega
 omega
theorem jgu(n:Nat):val (aS n 0)=0:=by
 induction n with
 |zero=>rfl
 |succ n a=>rw[List.replicate_succ,val,a]
structure DmOk (x y n s:Nat) (u V:List Nat):Prop where
 hs:s<16
 ov:Ok V
 lv:V.length=n
 vv:val V=y*2^s
 top:32768<=V.getD (n - 1) 0
 ou:Ok u
 lu:u.length=(limbs x).length+1
 vu:val u=x*2^s
 lt:V.length<u.length
 hd:val (u.drop (u.length - V.length))<val V
theorem jfd{x y:Nat}(i:y<=x)(hn:2<=(limbs y).length): ∃t,(limbs y)[(limbs y).length - 1]? =some t/\t≠0/\t<65536/\(limbs (x*2^(16 - len16 t))).length<=(limbs x).length+1/\(limbs x).length<=(limbs (x*2^(16 - len16 t))).length/\
  DmOk x y (limbs y).length (16 - len16 t) ((limbs (x*2^(16 - len16 t))++[0,0]).take ((limbs x).length+1)) (limbs (y*2^(16 - len16 t))):=by
 have j:y≠0:=by grind[limbs,FQ]
 obtain⟨t,ht,t0,M⟩:=J9 j;obtain⟨s1,s2,s3,s4⟩:=QO (x:=t) O M;refine⟨t,ht,O,M,?_⟩;have J:16 - len16 t<16:=O;generalize 16 - len16 t=s at*;have I:=Ff J;have hyv:=Az y;have k:=Aw y;have ey:y=val ((limbs y).take ((limbs y).length - 1))+65536^((limbs y).length - 1)*t/\val ((limbs y).take ((limbs y).length - 1))<65536^((limbs y).length - 1):=by
  have hlt:=O;have e:limbs y=(limbs y).take ((limbs y).length - 1)++[t]:=by
   grind[limbs,aJ,aO,aL,Option.some.inj,aG]
  have hl:=Bz _ (k.take ((limbs y).length - 1));grind[aM,aN,CF,val]
 generalize f:(limbs y).length=n at*;generalize val ((limbs y).take (n - 1))=L at*;have Z:65536^n=65536^(n - 1)*65536:=by
  conv=>lhs;rw[show n=n - 1+1 by omega]
  rw[aT]
 have hPp:0<65536^(n - 1):=O;have S:65536=2^s*2^(16 - s):=by rw[<-aI,show s+(16 - s)=16 by omega]
 have ht2:(t+1)*2^s<=65536:=by
  have:t<2^(16 - s):=by
   have h5:t*2^s<2^(16 - s)*2^s:=O3;simp_all
  have h6:(t+1)*2^s<=2^(16 - s)*2^s:=BC _ this;grind
 have T:y*2^s=L*2^s+65536^(n - 1)*(t*2^s):=by
  grind
 have G:L*2^s<65536^(n - 1)*2^s:=(by simp_all)
 have F:65536^(n - 1)*32768<=65536^(n - 1)*(t*2^s):=aD _ s3;have E:65536^(n - 1)*(t*2^s)+65536^(n - 1)*2^s<=65536^(n - 1)*65536:=by
  rw[<-Nat.mul_add];simp_all[aD,Nat.add_mul,Nat.one_mul]
 have l:(limbs (y*2^s)).length=n:=jjp O O (by rw[Z];omega);have p:=Aw (y*2^s);have q:=Az (y*2^s);have b:32768<=(limbs (y*2^s)).getD (n - 1) 0:=by
  have w:=Hm l O p;have hw:=Bz _ (p.take (n - 1));rw[A8,Bs O]at hw;have e:limbs (y*2^s)=(limbs (y*2^s)).take (n - 1)++[(limbs (y*2^s)).getD (n - 1) 0]:=by
   have W:(limbs (y*2^s)).drop (n - 1)=[(limbs (y*2^s)).getD (n - 1) 0]:=by
    rw[BQ O,DU O,AL,AD O];rfl
   grind[aG,limbs]
  have X:val (limbs (y*2^s))=val ((limbs (y*2^s)).take (n - 1))+65536^(n - 1)*(limbs (y*2^s)).getD (n - 1) 0:=by
   conv=>lhs;rw[e]
   grind[CF,aM,aN,val]
  rw[q]at X;apply Classical.byContradiction;intro z;have:65536^(n - 1)*((limbs (y*2^s)).getD (n - 1) 0+1)<=65536^(n - 1)*32768:=aD _ O;grind
 have g:x≠0:=O;have ax:=Mr g;have P:=Bz _ (Aw x);rw[Az]at P;have hmn:n<=(limbs x).length:=by
  rw[<-f];exact CG i
 generalize H:(limbs x).length=m at*;have h:x<=x*2^s:=Nat.le_mul_of_pos_right _ I.1;have o:m<=(limbs (x*2^s)).length:=by rw[<-H];exact CG h
 have hxs:x*2^s<65536^m*2^s:=(by simp_all)
 have a:(limbs (x*2^s)).length<=m+1:=by
  have h1:=Mr (v:=x*2^s) O;apply Classical.byContradiction;intro z;have w:65536^(m+1)<=65536^((limbs (x*2^s)).length - 1):=aH O O;have W:65536^m*2^s<=65536^m*65536:=aD _ O;rw[aT]at w;omega
 refine⟨a,o,?_⟩;have oX:=Aw (x*2^s);have vX:=Az (x*2^s);have r:(limbs (x*2^s)++[0,0]).take (m+1)=limbs (x*2^s)++aS (m+1 - (limbs (x*2^s)).length) 0:=by
  rw[aR,Ba a];congr 1;have:m+1 - (limbs (x*2^s)).length=0\/m+1 - (limbs (x*2^s)).length=1:=O;grind
 have ou:Ok ((limbs (x*2^s)++[0,0]).take (m+1)):=by
  rw[r];exact ok_app oX λy hy=>O3
 have K:((limbs (x*2^s)++[0,0]).take (m+1)).length=m+1:=by
  grind
 have N:val ((limbs (x*2^s)++[0,0]).take (m+1))=x*2^s:=by
  rw[r,CF,jgu,Nat.mul_zero,Nat.add_zero,vX]
 generalize (limbs (x*2^s)++[0,0]).take (m+1)=u at*;refine⟨J,p,l,q,b,ou,by rw[K,H],N,O,?_⟩;rw[K,l,q];have Q:val u=val (u.take (m+1 - n))+65536^(m+1 - n)*val (u.drop (m+1 - n)):=by
  grind[aG,CF,aM,aN]
 rw[N]at Q;apply Classical.byContradiction;intro z;have Y:65536^(m+1 - n)*(65536^(n - 1)*32768)<=65536^(m+1 - n)*val (u.drop (m+1 - n)):=aD _ O;rw[<-Nat.mul_assoc,<-aI,show m+1 - n+(n - 1)=m by omega]at Y;have h8:65536^m*2^s<=65536^m*32768:=aD _ I.2;omega
theorem WG[DrC](s:Nat)(h:s<16):
  CallsF prog 366 [.c (Ad []),.c (.int .i64 s)] (.u (.c (.d (Ad [])))):=by
 have a:=Q1 [] (λy b=>by cases b) O1;have e:limbs (val ([]:List Nat))=[]:=rfl;rw[e]at a;have f: ¬(s:Int)< -1048576:=O;have g: ¬1048576<s:=O;refine oC func366 ?_;refine Ac a ?_;refine rC2 f g ?_;rfl
theorem jjL[DrC](r s:Nat)(h:s<16)(b:(limbs (r*2^s)).length<=1000):
  CallsF prog 366 [.c (Ad (limbs (r*2^s))),.c (.int .i64 (-(s:Int)))] (.u (.c (.d (Ad (limbs r))))):=by
 have f:=Aw (r*2^s);have i:=Az (r*2^s);by_cases a:s=0
 ·subst a;simp only[aU,aW,Int.natCast_zero,Int.neg_zero]at*;by_cases g:r=0
  ·subst g;have k:=WG 0 O;have e:limbs 0=[]:=rfl;grind
  ·have k:=(MG (limbs r) 0 f b O O).dat;simp_all[R.dat,RU.dat,RC.dat,aU,aW,Ba]
 grind[jh2,limbs,Nat.mul_div_cancel,Nat.pow_pos]
theorem LV[DrC](a b:List Nat)(M:Ok a)(N:Ok b)(hl:a.length<=900)(hm:b.length<=900)(K:val b≠0):
  CallsF prog 320 [.c (Ad a),.c (Ad b)] (.tup [.c (.d (Ad (limbs (val a/val b)))),.c (.d (Ad (limbs (val a%val b)))),.c (.d (.int .i64 0))]):=by
 have H:=Q1 a M O;have t2:=Q1 b N O;have la:=Bu a M;have lb:=Bu b N;have q:=Aw (val a);have G:=Aw (val b);have m:=Az (val a);have I:=Az (val b);have W:=Jr (limbs (val a)) (limbs (val b)) q O G O;have Z:=EO (limbs (val a)) q O;rw[m,I]at W;rw[m]at Z;have nb:limbs (val b)≠[]:=λe=>K (limbs_nil.1 e);generalize v:limbs (val a)=A at*;generalize L:limbs (val b)=B at*;have pb:0<B.length:=O3;refine oC func320 ?_;refine aC H ?_;refine Ac t2 ?_;refine rC1 nb ?_;refine Ac W ?_;by_cases r:val a<val b
 ·have o:cmp3 (val a) (val b)= -1:=by unfold cmp3;rw[if_pos r]
  have e2:limbs (val a/val b)=[]:=by rw[Nat.div_eq_of_lt r];rfl
  rw[o,e2,AX r,v];refine rC ?_;refine aC Z ?_;rfl
 ·have o: ¬cmp3 (val a) (val b)<0:=by unfold cmp3;omega
  generalize cmp3 (val a) (val b)=rc at*;by_cases J:B.length=1
  ·obtain⟨d,rfl⟩: ∃d,B=[d]:=by
    match B,J with
    |[d],_=>exact⟨d,rfl⟩
   have hd:val b=d:=by grind[val]
   have j:d<65536:=G.head;have p:=Sd A d q O O j;have hr:val A%d<65536:=Nat.lt_trans (Nat.mod_lt _ O) j;have Y:=IA (val A%d) O;have mr:val A%d%18446744073709551616=val A%d:=O;rw[m]at p Y hr mr;rw[hd];simp -implicitDefEqProofs[jJ,-qA,-qB,-qC,-qD,-qE,-aP,o,u16];refine Ac p ?_;refine rC1 mr ?_;refine Ac Y ?_;simp
  ·obtain⟨t,Q,t0,H,E,z,f⟩:=jfd (x:=val a) (y:=val b) O (by rw[L];omega);have kz:=ji3 t t0 H;rw[L]at Q f;rw[v]at E z f;generalize 16 - len16 t=s at*;have S:=MG A s q O (by rw[m];omega) f.hs;have k:=(MG B s G O (by rw[I];exact K) f.hs).dat;rw[m]at S;rw[I]at k;simp only[R.dat,RU.dat,RC.dat]at k;rw[Ba O1]at k;have eV:D.slice (limbs (val b*2^s)).length ((limbs (val b*2^s)).map u16)=Ad (limbs (val b*2^s)):=rfl;rw[eV]at k;generalize limbs (val b*2^s)=V at*;generalize limbs (val a*2^s)=X at*;generalize hU:(X++[0,0]).take (A.length+1)=U at*;have n1:(B.length:Int) - 1=((B.length - 1:Nat):Int):=O;have i:=f.lu;rw[v]at i;have T:=jet 54 (X++[0,0]) true U V [] O1 f.ou f.ov (by rw[f.lv];omega) (by rw[f.lv];exact f.top) f.lt f.hd O (by simp_all) (by simp;omega);have g:=Gj f.ou f.ov (by rw[f.lv];omega) (by rw[f.lv];exact f.top) f.lt f.hd _ (AO _);have h:=K9 f.ou f.ov (by rw[f.lv];omega) (by rw[f.lv];exact f.top) f.lt f.hd;rw[f.vu,f.vv]at h;have hp:=Ff f.hs;rw[Nat.mul_mod_mul_right]at h;generalize (Cs U V (U.length - V.length)).1=F at*;simp -implicitDefEqProofs[jJ,-qA,-qB,-qC,-qD,-qE,-aP,o,J,n1,Q,u16];refine⟨O,O,?_⟩;refine aC kz ?_;refine aC S ?_;refine⟨O,O,O,?_⟩;have er:(X++[0,0]).map u16=X.map u16++[.int .u16 0,.int .u16 0]:=by rw[List.map_append];rfl
   have hF:F.length=A.length+1:=by rw[g.lu,i]
   have et:List.take (A.length+1) (splice 0 (F.map u16) (X.map u16++[.int .u16 0,.int .u16 0]))=F.map u16:=by
    simp_all[splice,List.take_zero,List.nil_append,aR,List.length_map,Nat.sub_self,List.append_nil,Ba]
   have en:D.slice (A.length+1) (F.map u16)=Ad F:=by
    show _=D.slice F.length _;rw[hF]
   rw[er,Nat.zero_mul,i,f.vu,f.vv,Nat.mul_div_mul_right _ _ hp.1]at T;have l:=Q1 F g.ou O;rw[h.2]at l;refine aC k ?_;refine .inr (.inl (Hn T (by simp[DB,Go.Va.U.all,C.id?]) (by simp[lk]) ?_));simp -implicitDefEqProofs[jJ,-qA,-qB,-qC,-qD,-qE,-aP,St.backW,et,en];refine .inl ⟨by grind[Nl],_,l,?_⟩;have w:(limbs (val a%val b*2^s)).length<=1000:=by
    have:=Bu F g.ou;grind
   have p:=jjL (val a%val b) s f.hs w;refine rC ?_;have P:=f.hs;refine⟨O,?_⟩;refine Ac p ?_;simp
end Go.Va
