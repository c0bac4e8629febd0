/- a part of the proof -/
import Derived.Test.YtplacedebenpaaaGreatDoorEat
import Derived.Test.YtplacedebenpaaaGreatDoorEau
import Derived.Test.YtplacedebenpaaaGreatDoorTie
import Derived.Lay
import Derived.Handy
import Derived.HandedShaped
import Derived.Shelf.Vars
import Derived.Lib.LaidTab
import Derived.Stop.LaidErr
set_option linter.all false
set_option maxRecDepth 100000
set_option maxHeartbeats 4000000
namespace Go.Va
open Go.Proofs Go.ChangeShapes Go.WideShapes Go.ChangeAt Go.RowKit
section
variable {H:Type} {enc:TypeId×Value->H} {w:World} {base:Nat} {sp:Nat->Bool} {hd:Bool}
theorem jAt{f:Nat}{cs:List Value}{x:DataW H×List MemPlace}(h:DataW.trod enc Tryz.prog w base sp hd f 26 cs=some x):
  ∃(l:List Int) (v:Value),(∀a∈l,-9223372036854775808<=a/\a<9223372036854775808)/\cs=[v]/\RepD w Z0 (AT l) v:=by
 rcases open_ints (k:= .i64) Tryz.underlying26 Tryz.underlying3 O4 h with⟨rfl,_⟩|⟨a,b,cap,g,rfl,_,m,o,p,_,q,r⟩
 ·exact⟨[],_,(λa i=>by cases i),rfl,.snil⟩
 ·have j:b<=g.length:=by rw[p];split<;>omega
  refine⟨g.take b,_,λa i=> ?_,rfl,?_⟩
  ·have:=r a (List.mem_of_mem_take i);simp[Lit.wf,IntKind.min,IntKind.max,IntKind.signed,IntKind.bits]at this;omega
  have:=jm6 (e:=λ_=>True) m o j q;have e:(AT (g.take b))= .slice b ((g.take b).map (D.int .i64)):=by
   show D.slice _ _=_;rw[A8,Bs j];rfl
  rw[e];exact this
structure InDer (x:Der):Prop where
 f:InFact x.fact
 r: ∀a∈x.frm,-9223372036854775808<=a/\a<9223372036854775808
theorem juG{g:Nat}{cs:List Value}{x:DataW H×List MemPlace}(m:cs.length=7)(h:DataW.trod enc Tryz.prog w base sp hd g 44 cs=some x):
  ∃d:Der,InDer d/\ ∀(j:Nat) (x:D) (u:Value),d.ds[j]? =some x->cs[j]? =some u->RepD w Z0 x u:=by
 obtain⟨S,n,_,_,_,a,F⟩:=DataW.trod_struct Tryz.underlying44 h;have P:S.length=3:=a;have z:Tryz.prog.cellsOf 3=1:=O4;have E:Tryz.prog.cellsOf 34=5:=O4;have i:Tryz.prog.cellsOf 26=1:=O4;obtain⟨o,p,q,r,t,v,y,rfl⟩: ∃o p q r t v y,cs=[o,p,q,r,t,v,y]:=by
  match cs,m with
  |[o,p,q,r,t,v,y],_=>exact⟨o,p,q,r,t,v,y,rfl⟩
 obtain⟨W,G⟩:=some_of (F 0 _ rfl) O;obtain⟨X,I⟩:=some_of (F 1 _ rfl) O;obtain⟨Y,J⟩:=some_of (F 2 _ rfl) O;simp only[z,E,i,List.getElem_toArray,List.getElem_cons_zero,List.getElem_cons_succ,List.drop_zero,List.take_succ_cons,List.take_zero,List.drop_succ_cons]at G I J;obtain⟨f,N,e⟩:=jB0 rfl G;obtain⟨k,L,_,_⟩:=DataW.trod_int Tryz.underlying3 I;obtain⟨l,T,K,M,Q⟩:=jAt J;cases L;cases M;refine⟨⟨f,k,l⟩,⟨N,K⟩,λj x u a b=> ?_⟩
 match j,a,b with
 |0,a,b=>exact e 0 x u a b
 |1,a,b=>exact e 1 x u a b
 |2,a,b=>exact e 2 x u a b
 |3,a,b=>exact e 3 x u a b
 |4,a,b=>exact e 4 x u a b
 |5,a,b=>cases a;cases b;exact .int _ _
 |6,a,b=>cases a;cases b;exact Q
theorem jA4{v:Value}{d:DataW H}{p:List MemPlace}(h:DataW.Trod enc Tryz.prog w base sp hd 25 v d p):
  ∃(ds:List Der) (k:List Grd),(∀x∈ds,InDer x)/\A.rep w Z0 (.agg [Dh ds,Dd k]) v:=by
 obtain⟨z,h⟩:=h;obtain⟨T,n,_,_,a,b,y⟩:=DataW.trod_struct Tryz.underlying25 h;have M:T.length=2:=b;have g:Tryz.prog.cellsOf 25=2:=O4;rw[g]at a;have q:Tryz.prog.cellsOf 22=1:=O4;have r:Tryz.prog.cellsOf 23=1:=O4;have L: ∃e f,v= .agg #[e,f]:=by
  cases v with
  |agg G=>
   obtain⟨l⟩:=G;have K:l.length=2:=a
   match l,K with
   |[e,f],_=>exact⟨e,f,rfl⟩
  |_=>simp[Value.cells]at a
 obtain⟨e,f,rfl⟩:=L;have t:(Value.agg #[e,f]).cells.toList=[e,f]:=rfl;rw[t]at y;obtain⟨Y,E⟩:=some_of (y 0 _ rfl) O;obtain⟨Z,F⟩:=some_of (y 1 _ rfl) O;simp only[q,r,List.getElem_toArray,List.getElem_cons_zero,List.getElem_cons_succ,List.drop_zero,List.take_succ_cons,List.take_zero,List.drop_succ_cons]at E F
 haveI:Inhabited Der:=⟨⟨⟨0,[],false,[],[]⟩,0,[]⟩⟩
 haveI:Inhabited Grd:=⟨⟨0,[]⟩⟩
 obtain⟨ds,W,N,I,P⟩:=JI (n:=7) O2 Der.ds_len (Q:=InDer) Tryz.underlying22 O4 (λm o=>juG m o) E;obtain⟨k,X,_,J,S⟩:=JI (n:=2) O2 Grd.ds_len (Q:=λ_=>True) Tryz.underlying23 O4 (λm o=>juc m o) F;cases I;cases J;refine⟨ds,k,N,[_,_],rfl,rfl,λj x u b i=> ?_⟩
 match j,b,i with
 |0,b,i=>cases b;cases i;exact P
 |1,b,i=>cases b;cases i;exact S
end
theorem Z8{f:FuncId}{fn:Func}{s:ChangeSpec}{a:List (String×DataW Unit)}(os:Os)(g:os.Started)(H:Type)(enc:TypeId×Value->H)(l:Tryz.prog.inits.idxOf? f=none)(P:Tryz.prog.funcs[f]? =some fn)(b:s.vars=[])
  (F:fn.resultTypes= #[4]) (X: ∀t∈fn.params.toList,Tryz.prog.readableRec t=true/\t<Tryz.prog.types.size)
  (o: ∀(H:Type) (ds:List (DataW H)),ds.length=fn.params.size->s.fn H ds={ results:=[.lit (.bool true)],args:=ds })
  (Q: ∀W,W.ShapedOpen Tryz.prog->laidMetH Tryz.prog a W->ZOk W Z0 Z0)
  (k: ∃(w:World) (tape:Tape) (i:Input),w.os=os/\(w.forCall tape i).Shaped Tryz.prog/\i.vars=[]/\Input.okWide Tryz.prog (w.forCall tape i) .any w.heap.size f i/\
   ((s.pre enc Tryz.prog fn [] false (w.forCall tape i).memory i.args/\laidMetH Tryz.prog a (w.forCall tape i).memory)/\sizedMet enc Tryz.prog fn (OpenSpec.ofChange s) false (w.forCall tape i).memory i.args)/\({}:Assume).holds Tryz.prog (lone (Frame.enter Tryz.prog f i.args .normal) [] (w.forCall tape i)))
  (hc: ∀(W:World) (args:Array Value) (ds:List (DataW H)) (I:List MemPlace) (base:Nat),ZOk W Z0 Z0->(∀(j:Nat) t v,fn.params[j]? =some t->args[j]? =some v->Value.okWide Tryz.prog W .any base t v)->DataW.TrodAll enc Tryz.prog W 0 (λ_=>true) true fn.params.toList args.toList ds I->
   Calls Tryz.prog f args W λe W'=>e= .returned (.bool true)/\Below W.heap.size W W'):
  ReturnsInHanded {} Tryz.checked os f .any (λw args=>(s.pre enc Tryz.prog fn [] false w args/\laidMetH Tryz.prog a w)/\sizedMet enc Tryz.prog fn (OpenSpec.ofChange s) false w args) (s.post enc Tryz.prog fn false true false false):=by
 refine returnsInHanded_of_calls jbF g l k ?_;intro w tape i _ T _ S E L;obtain⟨_,_,_,M,y,_,_,_,_,G⟩:=S;have e:M=fn:=Bi (y.symm.trans P);subst e;obtain⟨⟨⟨ds,gs,K,hw,hcc⟩,Y⟩,hz⟩:=E;have hW:=DataW.Whole.of_heap (w':=w.forCall tape i) O5 hw;have hL:laidMetH Tryz.prog a (w.forCall tape i):=Y.of_heap O5;have hg:=Q _ T hL;generalize w.forCall tape i=W at*;generalize i.args=args at*;have r:=hW;obtain⟨p,q,N,hV,rfl,hfz,hnd⟩:=hW;rw[b]at hV;obtain⟨rfl,rfl⟩:=trodVars_none hV;have z: ∀{J:List TypeId} {Z:List Value} {ds:List (DataW H)} {I:List MemPlace},DataW.TrodAll enc Tryz.prog W 0 (λ_=>true) true J Z ds I->ds.length=J.length:=by
  intro J
  induction J with
  |nil=>intro Z ds I h;obtain⟨_,rfl,_⟩:=trodAll_nil h;rfl
  |cons t J ih=>intro Z ds I h;obtain⟨v,vs',d,ds',p,q,rfl,rfl,rfl,h1,h2⟩:=trodAll_cons h;simp[ih h2]
 have m:s.fn H (ds++[])={ results:=[.lit (.bool true)],args:=ds }:=by
  rw[List.append_nil];exact o H ds (by simpa using z N)
 refine(hc W args ds p _ hg G N).mono λe W' ⟨he,hb⟩=> ?_;subst he;refine ChangeSpec.post_blind ⟨ds,[],p++[],[],p,[],r,?_,?_,?_,?_,λh=>by cases h⟩
 ·rw[m,F];exact trodAll_cons_mk (shut_bool Tryz.underlying4 _) trodAll_mk0
 ·rw[m];exact Tb WY hb X N (λx Y=>by
   have:=r.lt x (by simpa using Y);exact this)
 ·rw[b,m];rfl
 ·exact hb.frame _
theorem jmy{f:FuncId}{b:List A}(l:CallsF Tryz.prog f b (.u (.c (.d (.bool true))))){W:World}(m:ZOk W Z0 Z0){vals:List Value}(p:RepL (A.rep W Z0) b vals):
  Calls Tryz.prog f vals.toArray W λe a=>e= .returned (.bool true)/\Below W.heap.size W a:=
 (l.2 W Z0 vals m p).mono λe a ⟨v,g,h,i⟩=>by
  obtain⟨_,o,_,j⟩:=i;have k:RepD a (Ar (B3 0 [] o) Z0) (.bool true) v:=(j 0).1;cases k;exact⟨g,h.toBelow⟩
end Go.Va
namespace Go.Va
open Go.Proofs
def NF(ds:List Der)(k:Nat):List Int:=(ds.map Der.frm).getD k []
def Uk(k:Nat)(b:List Bool)(a:Int):List Bool:=if 0<=a/\a<(k:Int) then b.set a.toNat true else b
def RS(k:Nat)(b:List Bool)(l:List Int):List Bool:=l.foldl (Uk k) b
def okX(k:Nat)(l:List Int):Bool:=l.all λa=>decide (0<=a/\a<(k:Int))
def Kr(ds:List Der):Nat->List Bool->List Bool
 |0,b=>b
 |k+1,b=>Kr ds k (if b.getD k false=true then RS k b (NF ds k) else b)
def R2(ds:List Der):Nat->List Bool->Bool
 |0,_=>false
 |k+1,b=>(b.getD k false&& !okX k (NF ds k))||R2 ds k (if b.getD k false=true then RS k b (NF ds k) else b)
variable{j k n i:Nat}{N:List Bool}
theorem jpJ(k:Nat)(b:List Bool)(a:Int):(Uk k b a).length=b.length:=by
 grind[Uk]
theorem jpb(k:Nat)(l:List Int): ∀b:List Bool,(RS k b l).length=b.length:=by
 induction l with
 |nil=>intro b;rfl
 |cons a l e=>grind[RS,jpJ]
theorem jdC(k:Nat)(a:Int)(l:List Int)(b:List Bool):RS k b (a::l)=RS k (Uk k b a) l:=rfl
theorem jAV(k:Nat)(b:List Bool)(a:Int)(h:k<=j):(Uk k b a)[j]? =b[j]? :=by
 unfold Uk;grind
theorem jpa(k:Nat)(l:List Int): ∀(b:List Bool) {j:Nat},k<=j->(RS k b l)[j]? =b[j]? :=by
 induction l with
 |nil=>intro b j h;rfl
 |cons a l e=>grind[jdC,jAV]
theorem jlH(ds:List Der): ∀(k:Nat) (b:List Bool),(Kr ds k b).length=b.length
 |0,b=>rfl
 |k+1,b=>by
  rw[Kr,jlH ds k];split
  ·exact jpb ..
  ·rfl
theorem jdy(ds:List Der): ∀(k:Nat) (b:List Bool) {j:Nat},k<=j+1->(Kr ds k b)[j]? =b[j]?
 |0,b,j,h=>rfl
 |k+1,b,j,h=>by
  rw[Kr,jdy ds k _ O];split
  ·grind[jpa]
  ·rfl
theorem jt0(k:Nat)(b:List Bool)(a:Int)(h:b[j]? =some true):(Uk k b a)[j]? =some true:=by
 unfold Uk;grind
theorem jp1(k:Nat)(l:List Int): ∀(b:List Bool) {j:Nat},b[j]? =some true->(RS k b l)[j]? =some true:=by
 induction l with
 |nil=>intro b j h;exact h
 |cons a l e=>grind[jdC,jt0]
theorem jBA(k:Nat)(l:List Int): ∀(b:List Bool) {a:Int},a∈l->0<=a->a<(k:Int)->k<=b.length->(RS k b l)[a.toNat]? =some true:=by
 induction l with
 |nil=>simp
 |cons c l i=>
  intro b a h e f g;rw[jdC];rcases jzn.1 h with rfl|h
  ·refine jp1 k l _ ?_;unfold Uk;grind
  grind[jpJ]
theorem jsG(ds:List Der): ∀(k:Nat) (b:List Bool) {j:Nat},b[j]? =some true->(Kr ds k b)[j]? =some true
 |0,b,j,h=>h
 |k+1,b,j,h=>by
  rw[Kr];refine jsG ds k _ ?_;grind[jp1]
theorem getD_iff{b:List Bool}:b.getD j false=true↔b[j]? =some true:=by
 grind
theorem jkS(ds:List Der): ∀(k:Nat) (b:List Bool),R2 ds k b=true↔ ∃j<k,(Kr ds k b).getD j false=true/\okX j (NF ds j)=false
 |0,b=>by simp[R2]
 |k+1,b=>by
  rw[R2,Bool.or_eq_true,jkS ds k,Kr];have e: ∀c:List Bool,(Kr ds k c).getD k false=c.getD k false:=(by grind[jdy])
  have a:(if b.getD k false=true then RS k b (NF ds k) else b).getD k false=b.getD k false:=by
   split
   ·grind[jpa]
   ·rfl
  grind
theorem jna(ds:List Der): ∀(k:Nat) (b:List Bool),k<=b.length-> ∀j<k,(Kr ds k b)[j]? =some true-> ∀a∈NF ds j,0<=a->a<(j:Int)->(Kr ds k b)[a.toNat]? =some true
 |0,b,_,j,h,_,_,_,_,_=>O
 |k+1,b,l,j,m,h,a,i,f,g=>by
  rw[Kr]at h ⊢;by_cases e:j=k
  ·subst e;rw[jdy ds j _ O]at h;refine jsG ds j _ ?_;by_cases c:b.getD j false=true
   ·rw[if_pos c];grind[jBA]
   grind
  ·refine jna ds k _ ?_ j O h a i f g;grind[jpb]
def exI(N:List Bool)(k:Nat):Nat:=((N.take k).filter id).length
theorem jbE(h:k<N.length):exI N (k+1)=exI N k+(if N[k]=true then 1 else 0):=by
 unfold exI;rw[Cr h,List.filter_append,List.length_append];cases N[k]<;>rfl
theorem jpF(N:List Bool)(k:Nat):exI N k<=k:=by
 grind[exI,Nat.le_trans,List.length_filter_le,List.length_take]
def Pn(N:List Bool)(x:Der):Der:=⟨x.fact,x.rule,x.frm.map λa=>(exI N a.toNat:Int)⟩
def H0(ds:List Der)(N:List Bool)(k:Nat):List Der:=((ds.zip N).take k).filterMap λp=>if p.2=true then some (Pn N p.1) else none
def prem(ds:List Der)(l:List Int):List Fct:=l.map λa=>(ds.map Der.fact).getD a.toNat ⟨0,[],false,[],[]⟩
def exG(g:Int->List Fct->Fct->List Grd)(ds:List Der)(N:List Bool)(k:Nat):List Grd:=
 ((ds.zip N).take k).flatMap λp=>if p.2=true then g p.1.rule (prem ds p.1.frm) p.1.fact else []
theorem jn1{ds:List Der}(a:k<ds.length)(b:k<N.length):(ds.zip N).take (k+1)=(ds.zip N).take k++[(ds[k],N[k])]:=by
 grind[List.take_succ_eq_append_getElem,List.length_zip]
theorem jl8{ds:List Der}(a:k<ds.length)(b:k<N.length):
  H0 ds N (k+1)=H0 ds N k++(if N[k]=true then [Pn N ds[k]] else []):=by
 grind[H0,jn1]
theorem jfm(g:Int->List Fct->Fct->List Grd){ds:List Der}(a:k<ds.length)(b:k<N.length):
  exG g ds N (k+1)=exG g ds N k++(if N[k]=true then g ds[k].rule (prem ds ds[k].frm) ds[k].fact else []):=by
 grind[exG,jn1]
theorem jfP{ds:List Der}{N:List Bool}: ∀{k:Nat},k<=ds.length->k<=N.length->(H0 ds N k).length=exI N k
 |0,_,_=>rfl
 |k+1,a,b=>by
  rw[jl8 O O,List.length_append,jfP O O,jbE O];cases N[k]<;>rfl
def Sp(N:List Bool)(n i:Nat):List Int:=(List.range n).map λj=>if j<i/\N.getD j false=true then (exI N j:Int) else 0
theorem jdh(N:List Bool)(n i:Nat):(Sp N n i).length=n:=by unfold Sp;simp
theorem jx2(N:List Bool)(n:Nat):Sp N n 0=List.replicate n 0:=by
 unfold Sp;refine List.ext_getElem O1 λj a b=> ?_;simp
theorem jqm{a:Nat}(h:a<i)(e:a<n)(b:N.getD a false=true):(Sp N n i)[a]? =some (exI N a:Int):=by
 simp_all[Sp,Bf,List.getElem?_range,Option.map_some,if_pos]
theorem jvE(a:N.getD i false=false):Sp N n (i+1)=Sp N n i:=by
 unfold Sp;grind
theorem jAY(h:i<n)(a:N.getD i false=true):(Sp N n i).set i (exI N i:Int)=Sp N n (i+1):=by
 refine List.ext_getElem? λj=> ?_;rw[List.getElem?_set,jdh];by_cases e:i=j
 ·subst e;rw[if_pos rfl,if_pos h,jqm O h a]
 ·rw[if_neg e];unfold Sp;grind
end Go.Va
namespace Go.Va
open _root_.List renaming map_set → aD, replicate → aG, drop_zero → aH, drop_length → aI
open Int renaming natCast_add → qA, natCast_mul → qB
open Go.Proofs Go.Proofs.Tryz
def Lp{α:Type}(p:α->Bool):List α->Nat->Int
 |[],_=> -1
 |x::r,i=>if p x=true then (i:Int) else Lp p r (i+1)
theorem jqF{α:Type}{p:α->Bool}{l:List α}{i:Nat}(h:i<l.length):Lp p (l.drop i) i=if p l[i]=true then (i:Int) else Lp p (l.drop (i+1)) (i+1):=by
 rw[BQ h,Lp]
@[simp]theorem Ke(h:List (Nat×Blk))(i:Int)(l:List Der):idxSl h 7 i (.d (Dh l))=if 0<=i/\i<l.length then some (.d (.ref ((l.drop i.toNat).flatMap Der.ds))) else none:=by
 unfold Dh idxSl;simp only[jmu,and_true,jdj Der.ds_len]
@[simp]theorem jCq(l:List Der):lenC (.d (Dh l))=some l.length:=rfl
@[simp]theorem jCy(l:List Der):D.flat (Dh l)=false:=rfl
theorem XA{l:List Der}{i:Nat}(h:i<l.length):(l.drop i).flatMap Der.ds= .int .i64 l[i].fact.kind::AT l[i].fact.args:: .bool l[i].fact.neg::Ad l[i].fact.abs::Ad l[i].fact.den:: .int .i64 l[i].rule::AT l[i].frm::(l.drop (i+1)).flatMap Der.ds:=by
 rw[BQ h];rfl
theorem jm4(k:FuncId)(g:D)(p:Der->Bool)(l:List Der)(q:l.length<=1099511627776)(b: ∀a∈l,CallsF prog k [.agg a.ds,.c g] (.u (.c (.d (.bool (p a)))))):
  CallsF prog 16 [.c (Dh l),.c (.fn k [g])] (.u (.c (.d (.int .i64 (Lp p l 0))))):=by
 refine cO func16 rfl ?_;simp -implicitDefEqProofs[jJ,-qA,-qB,-aD];refine AV (λi:Nat=>⟨[(8,vI .i64 i),(7,vI .i64 l.length),(0,vC (.d (Dh l))),(1,vC (.d (.fn k [g])))],[]⟩) (λi=>i<=l.length/\Lp p (l.drop i) i=Lp p l 0) (λi=>l.length - i) 0 (by simp[AW,lk,St.le,vI,vC]) ⟨O,by rw[aH]⟩ ?_;rintro i ⟨o,f⟩;by_cases h:i<l.length
 ·have e:=jqF (p:=p) h;have b:=b l[i] (AZ h);have j:=XA h;simp only[Der.ds,Fct.ds,List.cons_append,List.nil_append]at b;cases m:p l[i]with
  |true=>
   rw[m]at b e;rw[if_pos rfl]at e;simp -implicitDefEqProofs[jJ,-qA,-qB,-aD,h,j];refine Ac b ?_;simp -implicitDefEqProofs[jJ,-qA,-qB,-aD];rw[<-f,e]
  |false=>
   rw[m]at b e;rw[if_neg O1]at e;simp -implicitDefEqProofs[jJ,-qA,-qB,-aD,h,j];refine Ac b ?_;simp -implicitDefEqProofs[jJ,-qA,-qB,-aD];exact⟨O,⟨O,by rw[<-e,f]⟩,O⟩
 ·have:i=l.length:=O;subst this;rw[aI]at f;simp -implicitDefEqProofs[jJ,-qA,-qB,-aD];exact f
theorem jfv(b:List Bool)(i:Nat)(v:Bool)(h:i<b.length):splice i [D.bool v] (b.map D.bool)=(b.set i v).map D.bool:=by
 unfold splice;rw[aD,List.set_eq_take_append_cons_drop,if_pos (by simpa using h)];simp
def jfW(ds:List Der)(a:List Grd)(x:Nat×List Bool×Bool):St:=
 ⟨[(8,vI .i64 ((x.1:Int) - 1)),(7,vB x.2.2),(6,vC (.sl 14 0 ds.length)),(2,vC (.ptr 2 0))],[(14,.row 1 (x.2.1.map D.bool) true),(2,.box [.d (Dh ds),.d (Dd a)])]⟩
def jlK(ds:List Der)(a:List Grd)(fl:List Int)(k:Nat)(x:Nat×List Bool×Bool):St:=
 ⟨[(35,vI .i64 x.1),(34,vI .i64 fl.length),(33,vC (.d (AT fl))),(8,vI .i64 k),(7,vB x.2.2),(6,vC (.sl 14 0 ds.length)),(2,vC (.ptr 2 0))],[(14,.row 1 (x.2.1.map D.bool) true),(2,.box [.d (Dh ds),.d (Dd a)])]⟩
theorem jxg(k:Nat)(a:Int)(l:List Int):okX k (a::l)=(decide (0<=a/\a<(k:Int))&&okX k l):=rfl
theorem jnp(ds:List Der)(H:List Grd)(i:Nat)(hi:i<ds.length)(hn:ds.length<=1000000)(T: ∀x∈ds,x.frm.length<=1000000):
  CallsF prog 19 [.agg [Dh ds,Dd H],.c (.int .i64 i)]
   (if R2 ds (i+1) ((aG ds.length false).set i true)=true then .tup [.c (.d (.slice 0 [])),.c (.d (.int .i64 15))]
   else .tup [.c (.own 1 ds.length ((Kr ds (i+1) ((aG ds.length false).set i true)).map D.bool)),.c (.d (.int .i64 0))]):=by
 obtain⟨b0,hb0⟩: ∃b,b=(aG ds.length false).set i true:=⟨_,rfl⟩
 have Z:b0.length=ds.length:=by rw[hb0];simp
 have s0:splice i [D.bool true] (aG ds.length (D.bool false))=b0.map D.bool:=by
  rw[hb0,<-jfv _ _ _ (by simpa using hi),List.map_replicate]
 rw[<-hb0];obtain⟨N,hN⟩: ∃N,N=Kr ds (i+1) b0:=⟨_,rfl⟩
 obtain⟨W,hW⟩: ∃W,W=R2 ds (i+1) b0:=⟨_,rfl⟩
 rw[<-hN,<-hW];refine cO func19 rfl ?_;simp -implicitDefEqProofs[jJ,-qA,-qB,-aD,hi,s0];refine⟨O,O,?_⟩;refine AV (jfW ds H) (λx=>x.1<=i+1/\x.2.1.length=ds.length/\Kr ds x.1 x.2.1=N/\(x.2.2||R2 ds x.1 x.2.1)=W) (λx=>x.1) (i+1,b0,false) (by simp[jfW,AW,lk,St.le,vI,vC,vB]) ⟨O1,Z,hN.symm,by simp[hW]⟩ ?_;rintro⟨z,b,w⟩ ⟨S,t,h,e⟩;simp only at S t h e;cases z with
 |zero=>
  rw[Kr]at h;rw[R2,Bool.or_false]at e;subst h e;unfold jfW;cases w with
  |true=>
   simp -implicitDefEqProofs[jJ,-qA,-qB,-aD]
  |false=>
   simp -implicitDefEqProofs[jJ,-qA,-qB,-aD,t]
 |succ k=>
  have F:k<ds.length:=O;have J:k<b.length:=O;have r:b[k]? =some b[k]:=AD J;have P:=XA F;have E:NF ds k=ds[k].frm:=by unfold NF;rw[AL,Bf,AD F];rfl
  have X:=T _ (AZ F);rw[Kr,E]at h;rw[R2,E]at e;have Q:b.getD k false=b[k]:=by rw[AL,r];rfl
  rw[Q]at h e;generalize ds[k].frm=g at*;unfold jfW;cases y:b[k]with
  |false=>
   rw[y]at h e r;simp only[Bool.false_eq_true,if_false,Bool.false_and,Bool.false_or]at h e;simp -implicitDefEqProofs[jJ,-qA,-qB,-aD,F,r];refine⟨O,k,b,?_⟩;cases w with
   |false=>exact .inl ⟨⟨⟨rfl,rfl⟩,rfl⟩,⟨O,t,h,by simpa using e⟩,O⟩
   |true=>exact .inr ⟨⟨⟨rfl,rfl⟩,rfl⟩,⟨O,t,h,by simpa using e⟩,O⟩
  |true=>
   rw[y]at h e r;simp only[if_true,Bool.true_and]at h e;simp -implicitDefEqProofs[jJ,-qA,-qB,-aD,F,r,P];refine AV (jlK ds H g k) (λx=>x.1<=g.length/\x.2.1.length=ds.length/\RS k x.2.1 (g.drop x.1)=RS k b g/\(x.2.2|| !okX k (g.drop x.1))=(w|| !okX k g)) (λx=>g.length - x.1) (0,b,w)
    (by simp[jlK,AW,lk,St.le,vI,vC,vB]) ⟨O1,t,by rw[aH],by rw[aH]⟩ ?_
   rintro⟨j,c,v⟩ ⟨z1,q,f,l⟩;simp only at z1 q f l;unfold jlK;by_cases p:j<g.length
   ·have gj:g[j]? =some g[j]:=AD p;rw[BQ p,jdC]at f;rw[BQ p,jxg]at l;obtain⟨a,hfa⟩: ∃a,g[j]=a:=⟨_,rfl⟩
    rw[hfa]at f l;by_cases G:0<=a/\a<(k:Int)
    ·have o: ¬a<0:=O;have L: ¬(k:Int)<=a:=O;have K:=jfv c a.toNat true O;unfold Uk at f;rw[if_pos G]at f;rw[decide_eq_true G,Bool.true_and]at l;obtain⟨m,rfl⟩: ∃m:Nat,a=m:=⟨a.toNat,O⟩
     rw[Int.toNat_natCast]at f K;have Y:m<ds.length:=O;have n3: ¬k<=m:=O;simp -implicitDefEqProofs[jJ,-qA,-qB,-aD,p,hfa,i64,o,L,Y];refine⟨O,O,j+1,c.set m true,?_⟩;have M:(c.set m true).length=ds.length:=by rw[List.length_set];exact q
     cases v with
     |false=>exact .inl ⟨⟨⟨rfl,rfl⟩,K⟩,⟨O,M,f,by cases w<;>simpa using l⟩,O⟩
     |true=>exact .inr ⟨⟨⟨rfl,rfl⟩,K⟩,⟨O,M,f,by cases w<;>simpa using l⟩,O⟩
    ·have o:a<0\/ ¬a<0/\(k:Int)<=a:=O;unfold Uk at f;rw[if_neg G]at f;rw[decide_eq_false G,Bool.false_and,Bool.not_false,Bool.or_true]at l;rcases o with o|⟨o,L⟩
     ·simp -implicitDefEqProofs[jJ,-qA,-qB,-aD,p,hfa,i64,o];exact⟨O,j+1,c,⟨rfl,rfl⟩,⟨O,q,f,by simpa using l⟩,O⟩
     ·simp -implicitDefEqProofs[jJ,-qA,-qB,-aD,p,hfa,i64,o,L];exact⟨O,j+1,c,⟨rfl,rfl⟩,⟨O,q,f,by simpa using l⟩,O⟩
   ·have I:j=g.length:=O;subst I;rw[aI]at f l;have f:c=RS k b g:=f;have l:v=(w|| !okX k g):=by rw[<-l];exact(Bool.or_false v).symm
    rw[<-f]at h e;have e:(v||R2 ds k c)=W:=by rw[<-e,l,Bool.or_assoc]
    clear l;simp -implicitDefEqProofs[jJ,-qA,-qB,-aD];refine⟨O,k,c,?_⟩;cases v with
    |false=>exact .inl ⟨⟨⟨rfl,rfl⟩,rfl⟩,⟨O,q,h,by simpa using e⟩,O⟩
    |true=>exact .inr ⟨⟨⟨rfl,rfl⟩,rfl⟩,⟨O,q,h,by simpa using e⟩,O⟩
end Go.Va
