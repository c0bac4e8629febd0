/- a part of the proof -/
import Derived.Test.YtplacedebenpaaaGreatDoorEbd
set_option linter.all false
set_option maxHeartbeats 4000000
set_option maxRecDepth 10000
namespace Go.Va
open _root_.List renaming map_set → aD, length_map → aG, flatMap_cons → aH, cons_append → aI, nil_append → aJ, length_nil → aL, set_getElem_self → aM, flatMap_nil → aN, length_cons → aO, any_eq_true → aP, append_nil → aR
open Int renaming natCast_add → qA, natCast_mul → qB
open List renaming reduceReplicate → qF
open Go.Proofs Go.Proofs.Tryz
def js9:List (List Nat):=(Ah [0,1,3,7,0,16,48,112,240,0,512,1536,3584,8191,0,32767])
@[simp]def jn8:List Seg:=[.any [] [7,41] [⟨0,[0],[7,41],[7,41],[]⟩,⟨0,[33],[7,41],[7,41],[]⟩,⟨0,[34],[7,41],[7,41],[]⟩,⟨0,[35],[7,41],[7,41],[]⟩,⟨0,[0],[7],[7,41],[]⟩,⟨0,[37],[7],[7,41],[]⟩,⟨0,[38],[7],[7,41],[]⟩,⟨0,[39],[7],[7,41],[]⟩,⟨1,[40],[7],[7],[]⟩,⟨0,[0],[7,41],[7,41],[]⟩,⟨0,[42],[7,41],[7,41],[]⟩,⟨0,[43],[7,41],[7,41],[]⟩,⟨0,[44],[7,41],[7,41],[]⟩,⟨0,[36,41,45],[7],[7],[]⟩,⟨1,[],[41],[41],[]⟩],.one]
def N7(a b:Int)(l:List Int):List Int:=l.map λx=>if x=a then b else x
def HX(a b:Int)(q:Fct):Fct:=⟨q.kind,N7 a b q.args,q.neg,q.abs,q.den⟩
def PV(a b:Int)(l:List Int)(j:Nat):List Int:=N7 a b (l.take j)++l.drop j
variable{l:List Int}{j:Nat}
theorem jpe(a b:Int)(l:List Int)(j:Nat):(PV a b l j).length=l.length:=by
 simp[PV,N7];omega
theorem jlR{a b:Int}(h:j<l.length):(PV a b l j)[j]? =some l[j]:=by
 unfold PV;rw[List.getElem?_append_right (by simp[N7];omega)];simp[N7,Bs (Nat.le_of_lt h),h]
theorem jq4{a b:Int}(h:j<l.length)(e:j<(PV a b l j).length):(PV a b l j)[j]=l[j]:=by
 have:=jlR (a:=a) (b:=b) h;rw[AD e]at this;exact Bi this
theorem Y4(a b:Int)(l:List Int):(N7 a b l).length=l.length:=by simp[N7]
theorem jrW{a b:Int}(h:j<l.length):PV a b l (j+1)=(PV a b l j).set j (if l[j]=a then b else l[j]):=by
 unfold PV N7;rw[List.set_append_right _ _ (by simp;omega),Cr h,List.map_append,List.append_assoc];congr 1;simp only[aG,A8,Bs (Nat.le_of_lt h),Nat.sub_self];rw[BQ h];rfl
theorem jr1(a b:Int)(l:List Int):PV a b l l.length=N7 a b l:=by simp[PV,N7]
theorem jps(a b:Int)(l:List Int):PV a b l 0=l:=by simp[PV,N7]
theorem jlT(a b:Int)(q:Fct):RI (HX a b q)=[.agg [.int .i64 q.kind,.slice q.args.length ((N7 a b q.args).map i64),.bool q.neg,Ad q.abs,Ad q.den]]:=by
 show[A.agg [.int .i64 q.kind,.slice (N7 a b q.args).length ((N7 a b q.args).map i64),.bool q.neg,Ad q.abs,Ad q.den]]=_;rw[Y4]
theorem jmh{x:D}{l:List D}(h:j<l.length):splice j [x] l=l.set j x:=by
 unfold splice;rw[List.set_eq_take_append_cons_drop,if_pos h];simp
theorem jBj(x:Value)(p q:Fct)(h:p.kind≠8):Gy prog x 276 [.c (C1 [p,q]),.c (.lit x)] []:=by
 refine Ps (T:=tb) Ak mixed func276 rfl O2 (Al rfl) rfl rfl ?_;intro a;unfold St.initY;simp only[C1,aH,aN,aR,Fct.ds,aI,aJ,aO,aL];simp -implicitDefEqProofs[jJ,-qA,-qB,-aD,-qF,h,LQ]
theorem jx3(x:Value)(p q:Fct)(y:p.kind=8)(a b:Int)(v:p.args=[a,b])(z:q.args≠[])(E:q.args.length<=1000):
  Gy prog x 276 [.c (C1 [p,q]),.c (.lit x)] ([HX a b q,HX b a q].map RI):=by
 have t:=jlM q.args O z;refine Ps (T:=tb) Ak mixed func276 rfl O2 (Al rfl) rfl rfl ?_;intro e;unfold St.initY;simp only[C1,aH,aN,aR,Fct.ds,aI,aJ,aO,aL,y,v];simp -implicitDefEqProofs[jJ,-qA,-qB,-aD,-qF];refine AV (λi:Nat=>⟨[(1000000,.tr x ((match i with|0=>[HX a b q,HX b a q]|1=>[HX b a q]|_=>[]).map RI++e)),(20,vI .i64 i),(19,vI .i64 2),(18,vC (.d (AT [a,b]))),(0,vC (.d (.slice 2 [.int .i64 8,AT [a,b],.bool p.neg,Ad p.abs,Ad p.den,.int .i64 q.kind,AT q.args,.bool q.neg,Ad q.abs,Ad q.den]))),(1,vC (.d (.lit x)))],
  []⟩) (λi=>i<=2) (λi=>2 - i) 0 (by simp[AW,lk,St.le,vI,vC]) O ?_
 rintro i hi
 match i,hi with
 |0,_=>
  simp -implicitDefEqProofs[jJ,-qA,-qB,-aD,-qF];refine AA js9 jn8 O5 ?_;simp -implicitDefEqProofs[jJ,-qA,-qB,-aD,-qF];refine Ae t ?_;simp -implicitDefEqProofs[jJ,-qA,-qB,-aD,-qF];refine AV (λj:Nat=>⟨[(1000000,.tr x ([HX a b q,HX b a q].map RI++e)),(50,vI .i64 j),(49,vI .i64 q.args.length),(48,vC (.sl 41 0 q.args.length)),(7,vC (.ptr 7 0)),(6,vI .i64 b),(5,vI .i64 a),(20,vI .i64 0),(19,vI .i64 2),(18,vC (.d (AT [a,b]))),(0,vC (.d (.slice 2 [.int .i64 8,AT [a,b],.bool p.neg,Ad p.abs,Ad p.den,.int .i64 q.kind,AT q.args,.bool q.neg,Ad q.abs,Ad q.den]))),(1,vC (.d (.lit x)))],
   [(7,.box [.d (.int .i64 q.kind),.sl 41 0 q.args.length,.d (.bool q.neg),.d (Ad q.abs),.d (Ad q.den)]),(41,.row 1 ((PV a b q.args j).map i64) true)]⟩) (λj=>j<=q.args.length) (λj=>q.args.length - j) 0 (by simp[AW,lk,St.le,vI,vC,jps,i64]) O ?_
  rintro j w;by_cases h:j<q.args.length
  ·have g:=jlR (a:=a) (b:=b) h;have f:=jpe a b q.args j;have r:=jrW (a:=a) (b:=b) h;have o:=jq4 (a:=a) (b:=b) h (by rw[f];exact h);have l:splice j [D.int .i64 b] ((PV a b q.args j).map i64)=((PV a b q.args j).set j b).map i64:=by
    rw[jmh (by rw[aG,f];exact h),aD];rfl
   simp -implicitDefEqProofs[jJ,-qA,-qB,-aD,-qF,h,f,o,i64];refine⟨λm=>⟨O,O,j+1,⟨rfl,?_⟩,O,O⟩,λm=>⟨O,j+1,⟨rfl,?_⟩,O,O⟩⟩
   ·rw[l,r,if_pos m]
   ·rw[r,if_neg m];congr 1;rw[<-o];exact(aM _).symm
  ·have k:j=q.args.length:=O;subst k;rw[jr1];simp -implicitDefEqProofs[jJ,-qA,-qB,-aD,-qF];have sl:=Y4 a b q.args;simp only[jlT];refine⟨_,_,by simp[lk];exact⟨rfl,rfl⟩,by simp[St.argsW,U.toA,toD,lk,sl];exact Ba (by simp[sl]),?_⟩;simp -implicitDefEqProofs[jJ,-qA,-qB,-aD,-qF,St.reachU,DZ,St.backY,St.rest];exact⟨1,⟨by simp[jlT],rfl⟩,O,O⟩
 |1,_=>
  simp -implicitDefEqProofs[jJ,-qA,-qB,-aD,-qF];refine AA js9 jn8 O5 ?_;simp -implicitDefEqProofs[jJ,-qA,-qB,-aD,-qF];refine Ae t ?_;simp -implicitDefEqProofs[jJ,-qA,-qB,-aD,-qF];refine AV (λj:Nat=>⟨[(1000000,.tr x ([HX b a q].map RI++e)),(50,vI .i64 j),(49,vI .i64 q.args.length),(48,vC (.sl 41 0 q.args.length)),(7,vC (.ptr 7 0)),(6,vI .i64 a),(5,vI .i64 b),(20,vI .i64 1),(19,vI .i64 2),(18,vC (.d (AT [a,b]))),(0,vC (.d (.slice 2 [.int .i64 8,AT [a,b],.bool p.neg,Ad p.abs,Ad p.den,.int .i64 q.kind,AT q.args,.bool q.neg,Ad q.abs,Ad q.den]))),(1,vC (.d (.lit x)))],
   [(7,.box [.d (.int .i64 q.kind),.sl 41 0 q.args.length,.d (.bool q.neg),.d (Ad q.abs),.d (Ad q.den)]),(41,.row 1 ((PV b a q.args j).map i64) true)]⟩) (λj=>j<=q.args.length) (λj=>q.args.length - j) 0 (by simp[AW,lk,St.le,vI,vC,jps,i64]) O ?_
  rintro j w;by_cases h:j<q.args.length
  ·have g:=jlR (a:=b) (b:=a) h;have f:=jpe b a q.args j;have r:=jrW (a:=b) (b:=a) h;have o:=jq4 (a:=b) (b:=a) h (by rw[f];exact h);have l:splice j [D.int .i64 a] ((PV b a q.args j).map i64)=((PV b a q.args j).set j a).map i64:=by
    rw[jmh (by rw[aG,f];exact h),aD];rfl
   simp -implicitDefEqProofs[jJ,-qA,-qB,-aD,-qF,h,f,o,i64];refine⟨λm=>⟨O,O,j+1,⟨rfl,?_⟩,O,O⟩,λm=>⟨O,j+1,⟨rfl,?_⟩,O,O⟩⟩
   ·rw[l,r,if_pos m]
   ·rw[r,if_neg m];congr 1;rw[<-o];exact(aM _).symm
  ·have k:j=q.args.length:=O;subst k;rw[jr1];simp -implicitDefEqProofs[jJ,-qA,-qB,-aD,-qF];have sl:=Y4 b a q.args;simp only[jlT];refine⟨_,_,by simp[lk];exact⟨rfl,rfl⟩,by simp[St.argsW,U.toA,toD,lk,sl];exact Ba (by simp[sl]),?_⟩;simp -implicitDefEqProofs[jJ,-qA,-qB,-aD,-qF,St.reachU,DZ,St.backY,St.rest];exact⟨2,⟨rfl,rfl⟩,O,O⟩
 |2,_=>
  simp -implicitDefEqProofs[jJ,-qA,-qB,-aD,-qF,LQ]
theorem jyE(x:Value)(f:Fct):Gy prog x 102 (RI f++[.c (.ref [.lit x])]) [TG (f,[])]:=by
 simp only[RI,aI,aJ];refine Ps (T:=tb) Ak mixed func102 rfl O2 (Al rfl) rfl rfl ?_;intro a;unfold St.initY;simp only[Fct.ds];simp -implicitDefEqProofs[jJ,-qA,-qB,-aD,-qF];refine⟨_,a,by simp[lk];rfl,by simp[TG,Dd,St.argsW,U.toA,toD,lk],?_⟩;simp -implicitDefEqProofs[jJ,-qA,-qB,-aD,-qF,St.reachU,DZ,St.backY,St.rest,LQ]
def Ow(Y:List Fct->List Fct)(n:Int)(a:List Fct):List Fnd:=
 if (rulT n).name=[]\/(a.length:Int)≠(rulT n).count then [] else
 if (a.map normF).any (λf=>decide (f.kind=0)) then [] else Q0 UD (runF (a.map normF) [] ((Y (a.map normF)).map λf=>(f,[])))
theorem jrc(n:Int)(G:Nat)(Y:List Fct->List Fct)(a:List Fct)(N: ∀f∈a,f.Mild)(hd:(rulT n).derive= .fn G [])(hl:a.length<=1000)
  (X:(a.length:Int)=(rulT n).count->(∀f∈a,(normF f).kind≠0)->(∀x',Gy prog x' G [.c (C1 (a.map normF)),.c (.lit x')] ((Y (a.map normF)).map RI))/\(∀f∈Y (a.map normF),f.Mild)/\(Y (a.map normF)).length<=1000):
  CallsF prog 53 [.c (.int .i64 n),.c (C1 a)] (.u (.c (.own 6 (Ow Y n a).length ((Ow Y n a).flatMap Fnd.ds)))):=by
 have T:=Yz n;generalize p:Ow Y n a=L;unfold Ow at p;generalize rulT n=r at*;simp only[Rul.res,Rul.ds,MB]at T;rw[hd]at T;refine cO func53 rfl ?_;simp -implicitDefEqProofs[jJ,-qA,-qB,-aD,-qF];refine Ac T ?_;simp -implicitDefEqProofs[jJ,-qA,-qB,-aD,-qF];by_cases H:r.name=[]
 ·rw[if_pos (.inl H)]at p;subst p;simp -implicitDefEqProofs[jJ,-qA,-qB,-aD,-qF,H]
 by_cases I:(a.length:Int)=r.count
 ·rw[if_neg (by simp[H,I])]at p;replace X:=X I;obtain⟨nm,pr,cc,gg,cnt,dd⟩:=r;simp only at*;subst I;subst hd;simp -implicitDefEqProofs[jJ,-qA,-qB,-aD,-qF,H];refine⟨O,?_⟩;rw[jo1];refine AV (λi:Nat=>⟨[(28,vI .i64 i),(27,vI .i64 a.length),(26,vC (.d (C1 a))),(6,vC (.ptr 6 0)),(5,vC (.ptr 5 0))],
   [(6,.box [.sl 25 0 a.length]),(25,.row 5 ((Qf a i).flatMap Fct.ds) true),(5,.box [.d (.str (bs nm)),.d (.slice pr.length (pr.flatMap Pat.ds)),.d (.slice cc.length (cc.flatMap Pat.ds)),.d (.slice gg.length (gg.flatMap Pat.ds)),.d (.int .i64 a.length),.d (.fn G [])])]⟩)
   (λi=>i<=a.length/\ ∀f∈a.take i,(normF f).kind≠0) (λi=>a.length - i) 0 (by simp[AW,lk,St.le,vI,vC,Qf]) ⟨O,O1⟩ ?_
  rintro i ⟨hi,Q⟩;by_cases h:i<a.length
  ·have k2:=jb0 a[i] (N _ (AZ h));have e2:=VX h;have g2:=jrF h;have st:=jhT Fct.ds_len (Qf a i) i (normF a[i]) (by rw[jdP hi];exact h);rw[jmz h]at st;simp only[Fct.ds]at k2 st;simp -implicitDefEqProofs[jJ,-qA,-qB,-aD,-qF,h,e2];refine AA (Ah [0,0,0,4,15,31]) [.any [] [] (Aq [[6],[7],[8],[35]]),.one,.one] O5 ?_;simp -implicitDefEqProofs[jJ,-qA,-qB,-aD,-qF];refine Ae k2 ?_;simp -implicitDefEqProofs[jJ,-qA,-qB,-aD,-qF,Fct.res,h,st,g2];refine⟨by rw[jdP hi];omega,λt=> ?_,λt=> ?_⟩
   ·rw[if_pos (aP.2 ⟨normF a[i],jzk.2 ⟨_,AZ h,rfl⟩,by simpa using t⟩)]at p;subst p;simp
   ·refine⟨O,i+1,⟨rfl,rfl⟩,⟨O,λf q=> ?_⟩,O⟩;rw[Cr h,List.mem_append,List.mem_singleton]at q;rcases q with q|rfl
    ·exact Q f q
    ·exact t
  ·have hi2:i=a.length:=O;subst hi2;rw[jrA];rw[BM]at Q;have hrt: ∀f∈a.map normF,f.Rt:=λf q=>by
    obtain⟨g,S,rfl⟩:=jzk.1 q;exact NW (N g S) (Q g S)
   rw[if_neg (by
    rw[aP];rintro⟨f,q,t⟩;obtain⟨g,S,rfl⟩:=jzk.1 q;exact Q g S (by simpa using t))]at p
   obtain⟨kS,hYm,Z⟩:=X Q;have hln:a.length=(a.map normF).length:=O1;have hn3:(a.map normF).length<=1000:=by simp;omega
   rw[hln];generalize a.map normF=nl at*;generalize E:(Y nl).map (λf=>((f,[]):Fo))=P at*;have hP: ∀x∈P,Xn x:=by
    rw[<-E];intro x hx;obtain⟨f,q,rfl⟩:=jzk.1 hx;exact⟨hYm f q,O1,O1⟩
   have hPl:P.length<=1000:=by rw[<-E];simpa using Z
   have F:((Y nl).map RI).flatMap (λy=>[y++[.c (Dd [])]])=P.map TG:=by
    rw[<-E];generalize Y nl=l
    induction l with
    |nil=>rfl
    |cons f l ih=>simp only[List.map_cons,aH,ih];rfl
   have kZ: ∀(x:Value) (y:List A),y∈(Y nl).map RI->Gy prog x 102 (y++[.c (.ref [.lit x])]) [y++[.c (Dd [])]]:=by
    intro x y hy;obtain⟨f,q,rfl⟩:=jzk.1 hy;exact jyE x f
   have kC:=jsg nl hrt hn3 P hP O;have J:runF nl [] (P.take (P.length - (P.map TG).length))=[]:=by rw[aG,Nat.sub_self];rfl
   have z:runF nl [] (P.take (P.length - ([]:List (List A)).length))=runF nl [] P:=by rw[aL,Nat.sub_zero,BM]
   have M:=ZM (nl:=nl) P [] .nil hP;have w:=jaI nl P [];simp only[C1]at kS;simp -implicitDefEqProofs[jJ,-qA,-qB,-aD,-qF];refine .inr (.inr (.inr (.inr (.inl (.inr (.inl ⟨rfl,[.c (.sl 25 0 nl.length)],102,10,95,[.ptr 6 0,.ptr 9 0],[.c (.slice nl.length (nl.flatMap Fct.ds))],(Y nl).map RI,λy=>[y++[.c (Dd [])]],λrem=>QZ nl (runF nl [] (P.take (P.length - rem.length))),[25,10],[6,9],[80],rfl,by simp[lk],O1,?_,kS,kZ,by rw[F];exact kC,?_,?_⟩))))))
   ·simp -implicitDefEqProofs[jJ,-qA,-qB,-aD,-qF,U.toA,toD]
   ·rw[F];dsimp only;rw[J,z,Zg];clear kC kS kZ T J z p M w F;refine⟨O1,?_,?_,?_,O1,?_⟩
    ·intro c v j K;simp only[jzn,E8,or_false]at v;rcases v with rfl|rfl<;>(simp[C.id?]at K;subst K;simp)
    ·intro j b o;simp only[lk]at o;split at o
     ·rename_i e;subst e;cases o;refine⟨O1,by simp -implicitDefEqProofs[jJ,-qA,-qB,-aD,-qF],?_⟩;intro c v k t;simp at v;subst v;simp[C.id?]at t
     ·split at o
      ·rename_i e;subst e;cases o;refine⟨O1,by simp -implicitDefEqProofs[jJ,-qA,-qB,-aD,-qF],?_⟩;intro c v k t;simp at v;subst v;simp[C.id?]at t
      ·cases o
    ·intro j K;simp only[jzn,E8,or_false]at K;rcases K with rfl|rfl<;>simp[lk]
    ·intro j b o;unfold QZ at o;split at o
     ·simp only[lk]at o;split at o
      ·rename_i e;subst e;simp
      ·split at o
       ·rename_i e;subst e;simp
       ·cases o
     ·simp only[lk]at o;split at o
      ·rename_i e;subst e;simp
      ·split at o
       ·rename_i e;subst e;simp
       ·split at o
        ·rename_i e;subst e;simp
        ·cases o
   ·dsimp only;rw[z];generalize runF nl [] P=m at*;by_cases hm:m=[]
    ·subst hm;rw[Zg];have W:L=[]:=p.symm;subst W;simp -implicitDefEqProofs[jJ,-qA,-qB,-aD,-qF,St.backX,FA];refine Ac jsH ?_;simp -implicitDefEqProofs[jJ,-qA,-qB,-aD,-qF]
    ·rw[Ye nl hm];have q1:=λi=>jrP i m true (by simp at w;omega) M;have hlL:L.length=m.length:=by rw[<-p];exact jei m
     rw[p]at q1;simp -implicitDefEqProofs[jJ,-qA,-qB,-aD,-qF,St.backX,FA];refine .inr (.inl (Hn (q1 80) (by simp[DB,U.all,C.id?]) (by simp[lk]) ?_));simp -implicitDefEqProofs[jJ,-qA,-qB,-aD,-qF,St.backW,hlL]
 ·rw[if_pos (.inr I)]at p;subst p;simp -implicitDefEqProofs[jJ,-qA,-qB,-aD,-qF,H,I]
end Go.Va
namespace Go.Va
open Go.Proofs
def Fct.Short2(f:Fct):Prop:=f.abs.length<=2/\f.den.length<=2
variable{q:Fct}
theorem jmZ(k:Int)(p q:Int×Int):(MK k p q).Short2:=by
 unfold MK;split<;>exact⟨O1,O1⟩
theorem jvw(p q:Int×Int):(TZ p q).Short2:=by
 unfold TZ;split
 ·exact⟨O1,O1⟩
 ·split
  ·exact⟨O1,O1⟩
  ·exact jmZ _ _ _
theorem jBf(u v w z:Int×Int):(M8 u v w z).Short2:=by
 unfold M8;split<;>exact⟨O1,O1⟩
theorem jbN:Fct.zero.Short2:=⟨by simp[Fct.zero],by simp[Fct.zero]⟩
theorem jav{f:Fct}(a:f.Mild)(h:f.Short2):(normF f).Short2:=by
 unfold normF;split
 ·rename_i l;have r:f.Rt:=⟨l,a⟩;have g:=r.parts.2.2.2;unfold normG;split
  ·split
   ·exact⟨O1,O1⟩
   ·exact jbN
  split
  ·split
   ·exact jvw _ _
   ·exact jbN
  split
  ·split
   ·exact jmZ _ _ _
   ·exact jbN
  split
  ·rename_i k;rw[if_pos k]at g;obtain⟨i,j,_,_,_⟩:=Cz g a.oa a.od;have b:(limbs (val f.abs)).length<=2:=by rw[<-i];exact h.1
   have e:(limbs (val f.den)).length<=2:=by rw[<-j];exact h.2
   split
   ·unfold O7;split
    ·exact jmZ _ _ _
    split
    ·exact⟨e,b⟩
    split
    ·exact⟨e,b⟩
    ·exact⟨b,e⟩
   ·exact jbN
  split
  ·split
   ·exact jBf _ _ _ _
   ·exact jbN
  ·exact⟨O1,O1⟩
 ·exact jbN
theorem jgA{f:Fct}(h:f.Short2): ∀g∈rdR f,g.Short2:=by
 intro g hg;have a:(limbs 1).length<=2:=O2;unfold rdR at hg;split at hg
 ·simp only[jzn,E8,or_false]at hg;rcases hg with rfl|rfl<;>exact⟨a,a⟩
 ·split at hg
  ·rw[jzn]at hg;rcases hg with rfl|hg
   ·exact h
   ·split at hg
    ·cases hg
    ·simp only[jzn,E8,or_false]at hg;subst hg;exact⟨h.2,h.1⟩
  ·cases hg
theorem jrt{f g:Fct}(a:f.Rto)(b:g.Rto)(e:f.Short2)(sg:g.Short2):(UQ f g).Mild:=by
 have j:=Cp f.abs g.abs a.mild.oa b.mild.oa;have k:=Cp f.den g.den a.mild.od b.mild.od;have h:=CG (Nat.div_le_self (val f.abs*val g.abs) (Nat.gcd (val f.abs*val g.abs) (val f.den*val g.den)));have i:=CG (Nat.div_le_self (val f.den*val g.den) (Nat.gcd (val f.abs*val g.abs) (val f.den*val g.den)));obtain⟨l,m⟩:=e;obtain⟨o,p⟩:=sg;refine⟨?_,?_,Aw _,Aw _,by simp[UQ]⟩
 ·show(limbs (val f.abs*val g.abs/Nat.gcd (val f.abs*val g.abs) (val f.den*val g.den))).length<=8;omega
 ·show(limbs (val f.den*val g.den/Nat.gcd (val f.abs*val g.abs) (val f.den*val g.den))).length<=8;omega
theorem jso{p:Fct}(i:p.Rt)(j:q.Rt)(k:p.Short2)(l:q.Short2): ∀f∈UJ (rdR p) (rdR q) 0,f.Mild:=by
 intro f e;unfold UJ Wz at e;simp only[List.drop_zero,List.mem_flatMap]at e;obtain⟨a,g,b,h,e⟩:=e;split at e
 ·simp only[jzn,E8,or_false]at e;subst e;exact jrt ((V8 p i).2.1 a g) ((V8 q j).2.1 b h) (jgA k a g) (jgA l b h)
 ·cases e
theorem jpr{p:Fct}(e:p.Rt)(h:q.Rt):(UJ (rdR p) (rdR q) 0).length<=4:=by
 have i:=(V8 p e).2.2;have j:=(V8 q h).2.2;unfold UJ;rw[List.drop_zero];have b: ∀a∈rdR p,(Wz a (rdR q) 0).length<=2:=by
  intro a _;unfold Wz;rw[List.drop_zero];have:=WE (f:=λg=>if WQ a g then [UQ a g] else []) (m:=1) (l:=rdR q) (λg _=>by split<;>simp);omega
 have:=WE (f:=λf=>Wz f (rdR q) 0) (m:=2) (l:=rdR p) b;omega
theorem jdo{a b:Int}(e:q.Mild):(HX a b q).Mild:=⟨e.la,e.ld,e.oa,e.od,by show(N7 a b q.args).length<=_;rw[Y4];exact e.ln⟩
def jbk(nl:List Fct):List Fct:=match nl with|[p,q]=>UJ (rdR p) (rdR q) 0|_=>[]
def Pw(nl:List Fct):List Fct:=match nl with
 |[p,q]=>if p.kind=8 then (match p.args with|[a,b]=>[HX a b q,HX b a q]|_=>[]) else []
 |_=>[]
theorem jwQ(b:List Fct)(a: ∀f∈b,f.Mild)(i: ∀f∈b,f.Short2)(m:b.length<=1000):
  CallsF Tryz.prog 53 [.c (.int .i64 4),.c (C1 b)] (.u (.c (.own 6 (Ow jbk 4 b).length ((Ow jbk 4 b).flatMap Fnd.ds)))):=by
 refine jrc 4 270 jbk b a rfl m λl j=> ?_;have k:b.length=2:=by have e:(rulT 4).count=2:=rfl;rw[e]at l;omega
 match b,k with
 |[p,q],_=>
  have g:=NW (a p O1) (j p O1);have h:=NW (a q O1) (j q O1);have o:=jav (a p O1) (i p O1);have r:=jav (a q O1) (i q O1);exact⟨λt=>jAc t _ _ g h,jso g h o r,Nat.le_trans (jpr g h) O⟩
theorem jAG(h:List Fct)(j: ∀f∈h,f.Mild)(H:h.length<=1000):
  CallsF Tryz.prog 53 [.c (.int .i64 9),.c (C1 h)] (.u (.c (.own 6 (Ow Pw 9 h).length ((Ow Pw 9 h).flatMap Fnd.ds)))):=by
 refine jrc 9 276 Pw h j rfl H λG x=> ?_;have F:h.length=2:=by have e:(rulT 9).count=2:=rfl;rw[e]at G;omega
 match h,F with
 |[p,q],_=>
  have I:=NW (j p O1) (x p O1);have t:=NW (j q O1) (x q O1);simp only[List.map_cons,List.map_nil];generalize normF p=g at*;generalize normF q=i at*;by_cases k:g.kind=8
  ·obtain⟨J,y,K,L⟩:=I.parts;obtain⟨z,m,M,N⟩:=t.parts;have l:g.args.length=2:=by rw[y,k];rfl
   obtain⟨a,b,hab⟩: ∃a b,g.args=[a,b]:=by
    match g.args,l with
    |[a,b],_=>exact⟨a,b,rfl⟩
   have e:Pw [g,i]=[HX a b i,HX b a i]:=by simp[Pw,k,hab]
   rw[e];have o:i.args≠[]:=λE=>by rw[E]at m;exact z m.symm
   have r:i.args.length<=1000:=by
    rw[m];unfold arity;repeat' split
    all_goals omega
   refine⟨λv=>jx3 v g i k a b hab o r,?_,O1⟩;intro f w;simp only[jzn,E8,or_false]at w;rcases w with rfl|rfl
   ·exact jdo t.mild
   ·exact jdo t.mild
  ·have e:Pw [g,i]=[]:=by simp[Pw,k]
   rw[e];exact⟨λv=>jBj v g i k,O1,O1⟩
def Uu(n:Int)(a:List Fct):List Fnd:=if n=4 then Ow jbk 4 a else if n=9 then Ow Pw 9 a else SV n a
theorem jsi(Y:List Fct->List Fct)(n:Int)(a:List Fct)(v: ∀f∈a,f.Mild)(z:(rulT n).count=2)
  (o: ∀p q,a=[p,q]->(∀f∈a,(normF f).kind≠0)->(∀f∈Y (a.map normF),f.Mild)/\(Y (a.map normF)).length<=1000):FndOk (Ow Y n a)/\(Ow Y n a).length<=100000000000:=by
 unfold Ow;split
 ·exact⟨.nil,O1⟩
 split
 ·exact⟨.nil,O1⟩
 ·rename_i k w;have j: ∀f∈a,(normF f).kind≠0:=λg t j=>w (List.any_eq_true.2 ⟨_,jzk.2 ⟨g,t,rfl⟩,by simpa using j⟩);have l:a.length=2:=by
   have: ¬(a.length:Int)≠(rulT n).count:=λh=>k (.inr h);omega
  obtain⟨p,q,hpq⟩: ∃p q,a=[p,q]:=by
   match a,l with
   |[p,q],_=>exact⟨p,q,rfl⟩
  obtain⟨y,E⟩:=o p q hpq j;generalize Y (a.map normF)=Q at*;have m: ∀x∈Q.map (λf=>((f,[]):Fo)),Xn x:=by
   intro x i;obtain⟨f,r,rfl⟩:=jzk.1 i;exact⟨y f r,O1,O1⟩
  have b:=ZM (nl:=a.map normF) _ [] .nil m;have e:=jaI (a.map normF) (Q.map (λf=>((f,[]):Fo))) [];refine⟨⟨λx i=>b.rt x ((TF _).mem_iff.1 i),λx i=>b.sh x ((TF _).mem_iff.1 i),?_⟩,?_⟩
  ·exact((TF _).pairwise_iff (λh=>Ne.symm h)).2 b.nd
  ·rw[jei];simp at e;omega
theorem jlD{b:List Fct}(a: ∀f∈b,f.Mild)(h: ∀f∈b,f.Short2)(p q:Fct)(e:b=[p,q])(g: ∀f∈b,(normF f).kind≠0):(∀f∈jbk (b.map normF),f.Mild)/\(jbk (b.map normF)).length<=1000:=by
 subst e;have i:=NW (a p O1) (g p O1);have j:=NW (a q O1) (g q O1);exact⟨jso i j (jav (a p O1) (h p O1)) (jav (a q O1) (h q O1)),Nat.le_trans (jpr i j) O⟩
theorem jkJ{a:List Fct}(b: ∀f∈a,f.Mild)(p q:Fct)(e:a=[p,q])(i: ∀f∈a,(normF f).kind≠0):(∀f∈Pw (a.map normF),f.Mild)/\(Pw (a.map normF)).length<=1000:=by
 subst e;have h:=NW (b q O1) (i q O1);simp only[List.map_cons,List.map_nil];generalize normF p=j at*;generalize normF q=k at*;unfold Pw;simp only;split
 ·split
  ·refine⟨λf g=> ?_,O1⟩;simp only[jzn,E8,or_false]at g;rcases g with rfl|rfl
   ·exact jdo h.mild
   ·exact jdo h.mild
  ·exact⟨O1,O1⟩
 ·exact⟨O1,O1⟩
theorem jhP(n:Int)(b:List Fct)(a: ∀f∈b,f.Mild)(k: ∀f∈b,f.Short2):FndOk (Uu n b)/\(Uu n b).length<=100000000000:=by
 unfold Uu;split
 ·exact jsi _ _ _ a rfl λp q e g=>jlD a k p q e g
 split
 ·exact jsi _ _ _ a rfl λp q e g=>jkJ a p q e g
 ·rename_i i j;by_cases h:b.length<=3
  ·exact jwM n b a h
  ·have e:SV n b=[]:=by
    unfold SV;rw[if_pos];refine .inr ?_;rw[(jjX n i j).2];have:=(jcL n).lp;omega
   rw[e];exact⟨.nil,O1⟩
theorem jyG(n:Int)(a:List Fct)(b: ∀f∈a,f.Mild)(j: ∀f∈a,f.Short2)(i:a.length<=1000):
  CallsF Tryz.prog 53 [.c (.int .i64 n),.c (C1 a)] (.u (.c (.d (Tk (Uu n a))))):=by
 unfold Uu;split
 ·rename_i h;subst h;have q:=(jwQ a b j i).dat;simp only[R.dat,RU.dat,RC.dat]at q;rw[jfF]at q;exact q
 split
 ·rename_i h;subst h;have q:=(jAG a b i).dat;simp only[R.dat,RU.dat,RC.dat]at q;rw[jfF]at q;exact q
 ·rename_i e g;exact jBK n a b (jjX n e g).1 (jjX n e g).2 O
theorem jxw(n:Int)(a:List Fct)(f:Fct)(g:f.Mild)(b: ∀f∈a,f.Mild)(e: ∀f∈a,f.Short2)(h:a.length<=1000):
  CallsF Tryz.prog 20 [.c (.int .i64 n),.c (C1 a),.agg f.ds] (.tup (if (normF f).kind=0 then [.c (.d (.slice 0 [])),.c (.d (.bool false))] else [.c (.d (Dd (U0 (Uu n a) (normF f)).1)),.c (.d (.bool (U0 (Uu n a) (normF f)).2))])):=
 jy1 n a f g _ (jhP n a b e).1 (jhP n a b e).2 (jyG n a b e h)
end Go.Va
namespace Go.Va
def Bnd.get(b:Bnd)(c:UInt8):Int×Int:=if 97<=c.toNat then (b.S1 (c.toNat - 97),b.S2 (c.toNat - 97)) else (b.P (c.toNat - 65),0)
def Bnd.put(b:Bnd)(c:UInt8)(v:Int×Int):Option Bnd:=if 97<=c.toNat then b.segment (c.toNat - 97) (v.1 - 1,v.2 - 1) else b.point (c.toNat - 65) (v.1 - 1)
abbrev OE:=UInt8×(Int×Int)
def jif(s:OE):Prop:=Pq s.1/\s.2.1≠0/\(¬97<=s.1.toNat->s.2.2=0)
variable{k:Nat}
theorem jd4(l:List Int)(i j:Nat)(x:Int)(h:i<l.length):(l.set i x).getD j 0=if j=i then x else l.getD j 0:=by
 grind
section
variable (b:Bnd)
theorem Bnd.P_setP(a:k<26)(x:Int)(j:Nat):(b.setP k x).P j=if j=k then x else b.P j:=jd4 b.v k j x (by rw[b.h];omega)
theorem Bnd.S1_setP(a:k<26)(x:Int)(j:Nat):(b.setP k x).S1 j=b.S1 j:=by
 have:=jd4 b.v k (26+j*2) x (by rw[b.h];omega);rw[if_neg O]at this;exact this
theorem Bnd.S2_setP(a:k<26)(x:Int)(j:Nat):(b.setP k x).S2 j=b.S2 j:=by
 have:=jd4 b.v k (26+j*2+1) x (by rw[b.h];omega);rw[if_neg O]at this;exact this
theorem Bnd.v_setS(a:k<26)(x y:Int)(j:Nat):(b.setS k x y).v.getD j 0=if j=26+k*2+1 then y else if j=26+k*2 then x else b.v.getD j 0:=by
 show((b.v.set (26+k*2) x).set (26+k*2+1) y).getD j 0=_;rw[jd4 _ _ _ _ (by rw[List.length_set,b.h];omega),jd4 _ _ _ _ (by rw[b.h];omega)]
theorem Bnd.P_setS(a:k<26)(x y:Int){j:Nat}(e:j<26):(b.setS k x y).P j=b.P j:=by
 have:=b.v_setS a x y j;rw[if_neg O,if_neg O]at this;exact this
theorem Bnd.S1_setS(a:k<26)(x y:Int)(j:Nat):(b.setS k x y).S1 j=if j=k then x else b.S1 j:=by
 have:=b.v_setS a x y (26+j*2);rw[if_neg O]at this;by_cases e:j=k
 ·rw[if_pos O]at this;rw[if_pos e];exact this
 ·rw[if_neg O]at this;rw[if_neg e];exact this
theorem Bnd.S2_setS(a:k<26)(x y:Int)(j:Nat):(b.setS k x y).S2 j=if j=k then y else b.S2 j:=by
 have:=b.v_setS a x y (26+j*2+1);by_cases e:j=k
 ·rw[if_pos O]at this;rw[if_pos e];exact this
 ·rw[if_neg O,if_neg O]at this;rw[if_neg e];exact this
end
theorem jmR{a b:UInt8}(h:a.toNat=b.toNat):a=b:=UInt8.toNat_inj.1 h
theorem jm1{b j:Bnd}{s:OE}(q:jif s)(h:b.put s.1 s.2=some j):(b.get s.1=(0,0)\/b.get s.1=s.2)/\j.get s.1=s.2/\ ∀x,Pq x->x≠s.1->j.get x=b.get x:=by
 obtain⟨c,v,w⟩:=s;obtain⟨o,r,m⟩:=q;simp only at*;unfold Pq at o;unfold Bnd.put at h;by_cases f:97<=c.toNat
 ·rw[if_pos f]at h;have g:c.toNat - 97<26:=O;unfold Bnd.segment at h;split at h
  ·cases h
  ·rename_i l;cases h;unfold Bnd.get;rw[if_pos f,if_pos f];refine⟨?_,?_,λx k i=> ?_⟩
   ·grind
   ·rw[Bnd.S1_setS b g,Bnd.S2_setS b g,if_pos rfl,if_pos rfl];simp
   ·have p:x.toNat≠c.toNat:=λe=>i (jmR e);unfold Pq at k;by_cases a:97<=x.toNat
    ·rw[if_pos a,if_pos a,Bnd.S1_setS b g,Bnd.S2_setS b g,if_neg O,if_neg O]
    ·rw[if_neg a,if_neg a,Bnd.P_setS b g _ _ O]
 ·rw[if_neg f]at h;have g:c.toNat - 65<26:=O;have m:=m f;unfold Bnd.point at h;split at h
  ·cases h
  ·rename_i l;cases h;unfold Bnd.get;rw[if_neg f,if_neg f];simp only at l;refine⟨?_,?_,λx k i=> ?_⟩
   ·grind
   ·rw[Bnd.P_setP b g,if_pos rfl];grind
   ·have p:x.toNat≠c.toNat:=λe=>i (jmR e);unfold Pq at k;by_cases a:97<=x.toNat
    ·simp_all[if_pos,Bnd.S1_setP,Bnd.S2_setP]
    ·rw[if_neg a,if_neg a,Bnd.P_setP b g,if_neg O]
theorem jpv{b:Bnd}{s:OE}(f:jif s)(h:b.get s.1=(0,0)\/b.get s.1=s.2): ∃e,b.put s.1 s.2=some e:=by
 obtain⟨c,v,w⟩:=s;obtain⟨i,g,j⟩:=f;simp only at*;unfold Bnd.get at h;unfold Bnd.put;by_cases a:97<=c.toNat
 ·rw[if_pos a]at h ⊢;unfold Bnd.segment;simp only[Prod.mk.injEq]at h;rw[if_neg (by simp only;omega)];exact⟨_,rfl⟩
 ·rw[if_neg a]at h ⊢;unfold Bnd.point;simp only[Prod.mk.injEq]at h;rw[if_neg O];exact⟨_,rfl⟩
def run:List OE->Bnd->Option Bnd
 |[],b=>some b
 |s::r,b=>match b.put s.1 s.2 with|none=>none|some a=>run r a
theorem run_append: ∀(a e:List OE) (b:Bnd),run (a++e) b=match run a b with|none=>none|some c=>run e c
 |[],e,b=>rfl
 |s::a,e,b=>by
  show(match b.put s.1 s.2 with|none=>none|some f=>run (a++e) f)=(match (match b.put s.1 s.2 with|none=>none|some f=>run a f)with|none=>none|some c=>run e c);cases b.put s.1 s.2 with
  |none=>rfl
  |some f=>exact run_append a e f
theorem jrk: ∀{a:List OE} {b c:Bnd},(∀s∈a,jif s)->run a b=some c->
  (∀s∈a,c.get s.1=s.2)/\(∀x,Pq x->b.get x≠(0,0)->c.get x=b.get x)/\(∀x,Pq x->(∀s∈a,s.1≠x)->c.get x=b.get x)
 |[],b,c,_,h=>by cases h;simp
 |s::a,b,c,k,h=>by
  have g:=k s O1;unfold run at h;cases i:b.put s.1 s.2 with
  |none=>grind
  |some p=>
   rw[i]at h;obtain⟨v,j,w⟩:=jm1 g i;obtain⟨m,o,y⟩:=jrk O3 h;have f:s.2≠(0,0):=λe=>g.2.1 (by rw[e]);refine⟨λt ht=> ?_,λx l q=> ?_,λx l r=> ?_⟩
   ·rcases jzn.1 ht with rfl|ht
    ·rw[o t.1 g.1 (by rw[j];exact f),j]
    ·exact m t ht
   ·grind
   grind
def VA:List UInt8->List Int->List (List OE)
 |[],_=>[[]]
 |c::r,b=>(List.range b.length).flatMap λi=>(VA r (b.eraseIdx i)).map λa=>(c,(b.getD i 0+1,0))::a
def FM:List UInt8->List (Int×Int)->List (List OE)
 |[],_=>[[]]
 |_::_,[]=>[]
 |c::r,s::l=>if 97<=c.toNat then (FM r l).map (λa=>(c,(s.1+1,s.2+1))::a) else
  match r with
  |[]=>[]
  |d::r=>(FM r l).map (λa=>(c,(s.1+1,0))::(d,(s.2+1,0))::a)++(if s.1=s.2 then [] else (FM r l).map (λa=>(c,(s.2+1,0))::(d,(s.1+1,0))::a))
theorem Xc{b:Bnd}{c:UInt8}(a:cap c)(v:Int):b.put c (v+1,0)=b.point (c.toNat - 65) v:=by
 unfold Bnd.put cap at*;grind
theorem jsT{b:Bnd}{c:UInt8}(a:97<=c.toNat)(v w:Int):b.put c (v+1,w+1)=b.segment (c.toNat - 97) (v,w):=by
 simp_all[Bnd.put,if_pos]
theorem jmq: ∀(l:List UInt8) (f:List Int) (b c:Bnd),(∀x∈l,cap x)->(c∈mp l f b↔ ∃a∈VA l f,run a b=some c)
 |[],f,b,c,_=>by
  simp_all[mp,VA,List.mem_singleton,exists_eq_left,run,Option.some.injEq,eq_comm]
 |x::r,f,b,c,m=>by
  rw[mp,VA];simp only[List.mem_flatMap,jzk];have o:=m x O1;constructor
  ·rintro⟨i,hi,h⟩;split at h
   ·cases h
   ·rename_i j e;obtain⟨a,k,g⟩:=(jmq r (f.eraseIdx i) j c O3).1 h;refine⟨_,⟨i,hi,a,k,rfl⟩,?_⟩;grind[run,Xc]
  ·rintro⟨_,⟨i,hi,a,k,rfl⟩,g⟩;refine⟨i,hi,?_⟩;unfold run at g;rw[Xc o]at g;split at g
   ·cases g
   ·rename_i j e;rw[e];exact(jmq r (f.eraseIdx i) j c O3).2 ⟨a,k,g⟩
theorem jbp: ∀(n:Nat) (ls:List UInt8) (l:List (Int×Int)) (b c:Bnd),ls.length<=n->Qj ls l->(c∈ms ls l b↔ ∃a∈FM ls l,run a b=some c)
 |n,[],l,b,c,_,_=>by
  have p:ms [] l b=[b]:=by cases l<;>rfl
  have i:FM [] l=[[]]:=by cases l<;>rfl
  rw[p,i];simp only[List.mem_singleton,exists_eq_left,run,Option.some.injEq];exact eq_comm
 |n,x::r,[],b,c,_,h=>by simp[Qj]at h
 |0,x::r,s::l,b,c,k,_=>by simp at k
 |n+1,x::r,s::l,b,c,k,q=>by
  simp only[List.length_cons,Nat.add_le_add_iff_right]at k;by_cases g:97<=x.toNat
  ·rw[jjM g]at q;have i:FM (x::r) (s::l)=(FM r l).map (λa=>(x,(s.1+1,s.2+1))::a):=by
    cases r<;>simp only[FM,if_pos g]
   rw[jfx g,i];simp only[jzk];constructor
   ·intro h;split at h
    ·cases h
    ·rename_i w e;obtain⟨a,j,f⟩:=(jbp n r l w c k q.2).1 h;refine⟨_,⟨a,j,rfl⟩,?_⟩;grind[run,jsT]
   ·rintro⟨_,⟨a,j,rfl⟩,f⟩;unfold run at f;rw[jsT g]at f;split at f
    ·cases f
    ·rename_i w e;rw[e];exact(jbp n r l w c k q.2).2 ⟨a,j,f⟩
  ·obtain⟨d,m,rfl,F,E,o⟩:=jn9 g q;have t: ∀u v:Int,c∈Th x d m l b u v↔ ∃a∈(FM m l).map (λa=>((x,(u+1,0))::(d,(v+1,0))::a:List OE)),run a b=some c:=by
    intro u v;unfold Th;simp only[jzk];constructor
    ·intro h;split at h
     ·cases h
     ·rename_i z p;split at h
      ·cases h
      ·rename_i y i;obtain⟨a,j,f⟩:=(jbp n m l y c (by simp at k;omega) o).1 h;refine⟨_,⟨a,j,rfl⟩,?_⟩;grind[run,Xc]
    ·rintro⟨_,⟨a,j,rfl⟩,f⟩;unfold run at f;rw[Xc F]at f;split at f
     ·cases f
     ·rename_i z p;rw[p];unfold run at f;rw[Xc E]at f;simp only;split at f
      ·cases f
      ·rename_i y i;rw[i];exact(jbp n m l y c (by simp at k;omega) o).2 ⟨a,j,f⟩
   have i:FM (x::d::m) (s::l)=(FM m l).map (λa=>(x,(s.1+1,0))::(d,(s.2+1,0))::a)++(if s.1=s.2 then [] else (FM m l).map (λa=>(x,(s.2+1,0))::(d,(s.1+1,0))::a)):=by
    simp only[FM,if_neg g]
   rw[jgN g,i,List.mem_append,t];grind
def T4(p:Pat)(f:Fct):List (List OE):=
 if p.kind=1\/p.kind=6\/p.kind=8 then (if f.kind=p.kind then VA p.letters f.args else [])
 else if p.kind=5 then (if f.kind=5 then [[(p.letters.getD 0 0,(f.args.getD 0 0+1,0)),(p.letters.getD 1 0,(f.args.getD 1 0+1,0)),(p.letters.getD 2 0,(f.args.getD 2 0+1,0))],[(p.letters.getD 0 0,(f.args.getD 0 0+1,0)),(p.letters.getD 1 0,(f.args.getD 2 0+1,0)),(p.letters.getD 2 0,(f.args.getD 1 0+1,0))]] else [])
 else (rdg p.kind f).flatMap (FM p.letters)
theorem jx8{a e f:UInt8}(i:cap a)(j:cap e)(k:cap f)(b c:Bnd)(m u v:Int):c∈SL (a.toNat - 65) (e.toNat - 65) (f.toNat - 65) b m u v↔run [(a,(m+1,0)),(e,(u+1,0)),(f,(v+1,0))] b=some c:=by
 unfold SL;simp only[run,Xc i,Xc j,Xc k];cases b.point (a.toNat - 65) m with
 |none=>simp
 |some g=>
  simp only;cases g.point (e.toNat - 65) u with
  |none=>simp
  |some h=>
   simp only;cases h.point (f.toNat - 65) v with
   |none=>simp
   |some l=>simp[eq_comm]
theorem jiY(k:Int)(f:Fct)(p:k=2\/k=3\/k=4)(o:f.Rt): ∀l∈rdg k f,∃u v,l=[u,v]:=by
 intro l b;obtain⟨q,j,r,t⟩:=o.parts;unfold rdg at b;split at b
 ·simp only[jzn,E8,or_false]at b;rcases b with rfl|rfl|rfl|rfl|rfl|rfl<;>exact⟨_,_,rfl⟩
 ·split at b
  ·cases b
  ·rename_i g;have g:f.kind=k:=Classical.byContradiction λh=>g h;obtain⟨a,e,c,d,m⟩:=KQ (by rw[j,g];rcases p with h|h|h<;>rw[h]<;>rfl:f.args.length=4);have i:Hg f.args=[AQ a e,AQ c d]:=by rw[m];rfl
   rw[i]at b;simp only[jzn,E8,or_false]at b;rcases b with rfl|rfl<;>exact⟨_,_,rfl⟩
theorem jsK(f:Fct)(r:f.Rt): ∀l∈rdg 7 f,∃u v w z,l=[u,v,w,z]:=by
 intro l g;obtain⟨t,p,x,y⟩:=r.parts;unfold rdg at g;split at g
 ·omega
 ·split at g
  ·cases g
  ·rename_i b;have b:f.kind=7:=Classical.byContradiction λh=>b h;obtain⟨a,e,c,d,j,o,k,m,q⟩:=VH (by rw[p,b];rfl:f.args.length=8);have i:Hg f.args=[AQ a e,AQ c d,AQ j o,AQ k m]:=by rw[q];rfl
   rw[i]at g;simp only[jzn,E8,or_false]at g;rcases g with rfl|rfl|rfl|rfl|rfl|rfl|rfl|rfl<;>exact⟨_,_,_,_,rfl⟩
theorem jv3{p:Pat}(g:p.Fit)(j: ¬(p.kind=1\/p.kind=6\/p.kind=8))(i:p.kind≠5){f:Fct}(h:f.Rt): ∀l∈rdg p.kind f,Qj p.letters l:=by
 intro l b;obtain⟨_,g⟩:=g;rcases g with⟨a,_⟩|⟨a,_⟩|⟨a,e⟩|⟨a,e⟩
 ·exact absurd a j
 ·exact absurd a i
 ·obtain⟨u,v,rfl⟩:=jiY _ f a h l b;exact e u v
 ·rw[a]at b;obtain⟨u,v,w,z,rfl⟩:=jsK f h l b;exact e u v w z
theorem js2{p:Pat}(r:p.Fit){f:Fct}(v:f.Rt)(b c:Bnd):c∈SB p f b↔ ∃a∈T4 p f,run a b=some c:=by
 have j:= @jv3 p r;unfold SB T4;by_cases i:p.kind=1\/p.kind=6\/p.kind=8
 ·rw[if_pos i,if_pos i];split
  ·refine jmq _ _ _ _ ?_;rcases r.2 with⟨_,h⟩|⟨h,_⟩|⟨h,_⟩|⟨h,_⟩
   ·exact h
   all_goals omega
  ·simp
 ·rw[if_neg i,if_neg i];by_cases g:p.kind=5
  ·rw[if_pos g,if_pos g];split
   ·obtain⟨k,m,o,e,k1,k2,k3⟩: ∃k m o,p.letters=[k,m,o]/\cap k/\cap m/\cap o:=by
     rcases r.2 with⟨h,_⟩|⟨_,h⟩|⟨h,_⟩|⟨h,_⟩
     ·omega
     ·exact h
     all_goals omega
    rw[e];simp only[List.getD_cons_zero,List.getD_cons_succ,List.mem_append,jx8 k1 k2 k3,jzn,E8,or_false,exists_eq_or_imp,exists_eq_left]
   ·simp
  ·rw[if_neg g,if_neg g];simp only[List.mem_flatMap];constructor
   ·rintro⟨l,e,w⟩;obtain⟨a,q,t⟩:=(jbp _ _ l b c (AO _) (j i g v l e)).1 w;exact⟨a,⟨l,e,q⟩,t⟩
   ·rintro⟨a,⟨l,e,q⟩,t⟩;exact⟨l,e,(jbp _ _ l b c (AO _) (j i g v l e)).2 ⟨a,q,t⟩⟩
section
variable (π:UInt8->UInt8)
end
theorem juE(x:UInt8):Bnd.zero.get x=(0,0):=by
 have h: ∀k,Bnd.zero.v.getD k 0=0:=by
  intro k;show(List.replicate 78 (0:Int)).getD k 0=0;rw[AL,List.getElem?_replicate];split<;>rfl
 unfold Bnd.get Bnd.S1 Bnd.S2 Bnd.P;split
 ·rw[h,h]
 ·rw[h]
end Go.Va
