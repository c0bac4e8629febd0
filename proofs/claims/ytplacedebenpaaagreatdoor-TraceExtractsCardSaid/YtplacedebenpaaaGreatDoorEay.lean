/- a part of the proof -/
import Derived.Test.YtplacedebenpaaaGreatDoorEax
set_option linter.all false
set_option maxHeartbeats 4000000
set_option maxRecDepth 10000
namespace Go.Va
open _root_.List renaming map_set → aD, replicate → aG, cons_append → aH
open Int renaming natCast_add → qA, natCast_mul → qB
open Go.Proofs Go.Proofs.Tryz
def EM:List Grd->List Grd
 |a::b::l=>if a=b then EM (b::l) else a::EM (b::l)
 |l=>l
theorem jtm: ∀(m:List Grd) (y x:Grd),EM (m++[y]++[x])=if y=x then EM (m++[y]) else EM (m++[y])++[x]
 |[],y,x=>by
  simp only[List.nil_append,aH,EM];split
  ·rename_i h;subst h;rfl
  ·rfl
 |[a],y,x=>by
  by_cases f:a=y<;>by_cases g:y=x<;>simp[EM,f,g]
 |a::b::m,y,x=>by
  have e:=jtm (b::m) y x;simp only[aH]at e ⊢;rw[EM,EM,e];split<;>split<;>rfl
theorem jpf{l:List Grd}{i:Nat}(a:1<=i)(h:i<l.length):EM (l.take (i+1))=if l[i - 1]' O=l[i] then EM (l.take i) else EM (l.take i)++[l[i]]:=by
 obtain⟨j,rfl⟩: ∃j,i=j+1:=⟨i - 1,O⟩
 rw[Cr h,Cr (by omega:j<l.length)];exact jtm _ _ _
theorem jpW: ∀l:List Grd,(EM l).length<=l.length
 |a::b::l=>by
  rw[EM];have:=jpW (b::l);split
  ·simp at*;omega
  ·simp at*;omega
 |[a]=>by simp[EM]
 |[]=>by simp[EM]
theorem jhT{α:Type}{e:α->List D}{k:Nat}(b: ∀a,(e a).length=k)(l:List α)(i:Nat)(v:α)(h:i<l.length):splice (i*k) (e v) (l.flatMap e)=(l.set i v).flatMap e:=by
 rw[splice,jd2 b,b,show i*k+k=(i+1)*k by rw[Nat.succ_mul],jdj b,List.set_eq_take_append_cons_drop,if_pos h];simp
theorem jAW(l:List Grd)(i:Nat)(v:Grd)(h:i<l.length):splice (i*2) [D.int .i64 v.kind,AT v.args] (l.flatMap Grd.ds)=(l.set i v).flatMap Grd.ds:=jhT Grd.ds_len l i v h
theorem jvO{α:Type}{e:α->List D}{k:Nat}(b: ∀a,(e a).length=k)(z:List D)(j:z.length=k)(l:List α)(i:Nat)(h:i<=l.length):splice (i*k) (rep (l.length - i) z) (l.flatMap e)=(l.take i).flatMap e++(aG (l.length - i) z).flatten:=by
 have f: ∀n,rep n z=(aG n z).flatten:=by
  intro n
  induction n with
  |zero=>rfl
  |succ n m=>rw[rep,m,List.replicate_succ,List.flatten_cons]
 have g:((aG (l.length - i) z).flatten).length=(l.length - i)*k:=by
  simp[List.length_flatten,j]
 rw[splice,jd2 b,f,g,<-Nat.add_mul,jdj b,show i+(l.length - i)=l.length by omega,List.drop_length];simp
theorem jsD[DrC](r:FuncId)(M: ∀a b:Grd,a.Short->b.Short->CallsF prog r [.agg a.ds,.agg b.ds] (.u (.c (.d (.bool (decide (cmpG a b=0)))))))(l:List Grd)(N:l.length<=1099511627776)(Y: ∀g∈l,g.Short):
  CallsA prog 23 2 l.length (l.flatMap Grd.ds) [.c (.fn r [])] (EM l).length ((EM l).flatMap Grd.ds):=by
 have P: ∃more,CallsA prog 23 2 l.length (l.flatMap Grd.ds) [.c (.fn r [])] (EM l).length ((EM l).flatMap Grd.ds++more):=by
  by_cases E:l.length<2
  ·refine⟨[],?_⟩;have e:EM l=l:=by
    match l,E with
    |[],_=>rfl
    |[a],_=>rfl
    |a::b::l,h=>simp at h;omega
   rw[e,List.append_nil];refine Rc (T:=tb) Ak mixed func23 rfl O2 (Al rfl) rfl ?_;unfold St.initA;simp -implicitDefEqProofs[jJ,-qA,-qB,-aD,E,BK,Sz]
  ·have k: ∀a b:Grd,a∈l->b∈l->CallsF prog r [.agg a.ds,.agg b.ds] (.u (.c (.d (.bool (decide (a=b)))))):=λa b ha hb=>by
    have:=M a b (Y a ha) (Y b hb);have e:decide (cmpG a b=0)=decide (a=b):=by simp[cmpG_zero]
    rwa [e]at this
   refine⟨(aG (l.length - (EM l).length) [D.int .i64 0,.slice 0 []]).flatten,?_⟩;refine Rc (T:=tb) Ak mixed func23 rfl O2 (Al rfl) rfl ?_;unfold St.initA;simp -implicitDefEqProofs[jJ,-qA,-qB,-aD,E,BK];refine AV (λj:Nat=>⟨[(5,vI .i64 (j+1:Nat)),(0,vC (.sl 2000000 0 l.length)),(1,vC (.d (.fn r [])))],[(2000000,.row 2 (l.flatMap Grd.ds) true)]⟩) (λj=>j+1<=l.length/\EM (l.take (j+1))=l.take (j+1)) (λj=>l.length - j) 0 (by simp[AW,lk,St.le,vI,vC]) ⟨O,by
    match l,E with
    |a::b::l,_=>rfl
    |[a],_=>rfl
    |[],h=>simp at h⟩ ?_
   rintro j ⟨hj,z⟩;by_cases h:j+1<l.length
   ·have g1:=jds l (j+1) h;have g0:=jds l j O;have q:=k l[j+1] (l[j]' O) (AZ _) (AZ _);have L:=jpf (l:=l) (i:=j+1) O h;simp only[Nat.add_sub_cancel]at L;have b1:(j+1)*2+2<=l.length*2:=O;have b0:j*2+2<=l.length*2:=O;simp only[Grd.ds]at q;simp -implicitDefEqProofs[jJ,-qA,-qB,-aD,h];refine AA (Ah [0,0,0,6,14,0,0,64,224,480,1023]) [.any [] [] (Aq [[1],[0],[5],[19,20],[21],[0],[5],[24],[23,25],[26]]),.one] O5 ?_;simp -implicitDefEqProofs[jJ,-qA,-qB,-aD,g0,g1];refine⟨h,b1,O,O,b0,?_⟩;refine Ac q ?_;by_cases H:l[j+1]=l[j]' O
    ·simp -implicitDefEqProofs[jJ,-qA,-qB,-aD,H];refine⟨O,?_⟩;have W:EM (l.take (j+1+1))=l.take (j+1):=by rw[L,if_pos H.symm,z]
     refine AV (λx:Nat×Nat×List Grd=>⟨[(7,vI .i64 (x.1+1:Nat)),(6,vC (.sl 2000000 (j+1) (l.length - (j+1)))),(5,vI .i64 (x.2.1:Nat)),(0,vC (.sl 2000000 0 l.length)),(1,vC (.d (.fn r [])))],[(2000000,.row 2 (x.2.2.flatMap Grd.ds) true)]⟩)
      (λx=>j+1+x.1+1<=l.length/\x.2.1<=j+1+x.1/\x.2.2.length=l.length/\x.2.2.take x.2.1=EM (l.take (j+1+x.1+1))/\x.2.1=(EM (l.take (j+1+x.1+1))).length/\ ∀p,j+1+x.1<=p->x.2.2[p]? =l[p]?) (λx=>l.length - x.1) (0,j+1,l) (by simp[AW,lk,St.le,vI,vC]) (by
      refine⟨by show j+1+0+1<=_;omega,by show j+1<=j+1+0;omega,rfl,by show l.take (j+1)=_;rw[Nat.add_zero,W],?_,λp _=>rfl⟩;show j+1=_;rw[Nat.add_zero,W,A8];omega) ?_
     rintro⟨m,K,G⟩ ⟨h3,h4,o,w,y,F⟩;simp only at h3 h4 o w y F;by_cases I:m+1<l.length - (j+1)
     ·have hG: ∀p (J:j+1+m<=p) (N:p<l.length),G[p]' O=l[p]:=λp J N=>by
       have:=F p J;rw[AD O,AD N]at this;exact Bi this
      have Q:=jds G (j+1+(m+1)) O;have Z:=jds G (j+1+m) O;rw[hG _ O O]at Q Z;have q:=k (l[j+1+(m+1)]' O) (l[j+1+m]' O) (AZ _) (AZ _);simp only[Grd.ds]at q;have t:=jpf (l:=l) (i:=j+1+m+1) O O;have S:(j+1+(m+1))*2+2<=l.length*2:=O;have c0:(j+1+m)*2+2<=l.length*2:=O;simp -implicitDefEqProofs[jJ,-qA,-qB,-aD,I];refine AA (Ah [0,0,0,6,14,0,0,64,224,480,1023,2047]) [.any [] [] (Aq [[1],[6],[7],[39,40],[41],[6],[7],[44],[43,45],[46]]),.one,.one] O5 ?_;simp -implicitDefEqProofs[jJ,-qA,-qB,-aD,Z,Q,o];refine⟨I,S,O,O,c0,?_⟩;refine Ac q ?_;by_cases f:l[j+1+(m+1)]' O=l[j+1+m]' O
      ·have v:EM (l.take (j+1+(m+1)+1))=EM (l.take (j+1+m+1)):=by
        rw[show j+1+(m+1)+1=j+1+m+1+1 from rfl,t];exact if_pos f.symm
       simp -implicitDefEqProofs[jJ,-qA,-qB,-aD,f];exact⟨O,m+1,K,G,⟨⟨rfl,rfl⟩,rfl⟩,⟨O,O,o,by rw[v];exact w,by rw[v];exact y,λp J=>F p O⟩,O⟩
      ·have v:EM (l.take (j+1+(m+1)+1))=EM (l.take (j+1+m+1))++[l[j+1+(m+1)]' O]:=by
        rw[show j+1+(m+1)+1=j+1+m+1+1 from rfl,t];exact if_neg λh=>f h.symm
       simp -implicitDefEqProofs[jJ,-qA,-qB,-aD,f,Q,o];refine⟨I,S,O,O,?_⟩;refine⟨O,O,m+1,K+1,G.set K (l[j+1+(m+1)]' O),⟨⟨rfl,rfl⟩,jAW G K _ O⟩,⟨O,O,by simp[o],?_,by rw[v,List.length_append,<-y];rfl,λp J=> ?_⟩,O⟩
       ·rw[v,<-w,Cr (by simp;omega),List.getElem_set_self,List.take_set_of_le (AO _)]
       ·rw[List.getElem?_set_ne O];exact F p O
     ·have e3:j+1+m+1=l.length:=O;rw[e3,BM]at w y;have X:=jvO Grd.ds_len [D.int .i64 0,D.slice 0 []] rfl G K O;rw[o,w]at X;simp -implicitDefEqProofs[jJ,-qA,-qB,-aD,I,o,clearTo];refine⟨O,O,O,?_⟩;rw[X];simp only[Sz,y];exact⟨.inl trivial,2000000,rfl,by simp[lk]⟩
    ·simp -implicitDefEqProofs[jJ,-qA,-qB,-aD,H];exact⟨O,⟨O,by rw[L,if_neg λh=>H h.symm,z];exact(Cr h).symm⟩,O⟩
   ·have e:j+1=l.length:=O;rw[e,BM]at z;simp -implicitDefEqProofs[jJ,-qA,-qB,-aD,h,Sz];exact⟨_,⟨rfl,by rw[z]⟩,by simp[z]⟩
 obtain⟨more,h⟩:=P;exact h.less
theorem jAU[DrC](l:List Grd)(a:l.length<=1099511627776)(b: ∀g∈l,g.Short):
  CallsA prog 23 2 l.length (l.flatMap Grd.ds) [.c (.fn 354 [])] (EM l).length ((EM l).flatMap Grd.ds):=
 jsD 354 jxr l a b
end Go.Va
namespace Go.Va
open Go.Proofs Go.Shelf Go.RowKit Go.Lib Go.Sort
theorem jrE[DrC](a b:Grd)(g:a.Short)(h:b.Short):CallsF Tryz.prog 22 [.agg a.ds,.agg b.ds] (.u (.c (.d (.int .i64 (cmpG a b))))):=by
 have i:=jbL a.kind b.kind;have j:=jjh a.args b.args (by unfold Grd.Short at g;omega) (by unfold Grd.Short at h;omega);have f:CallsF Tryz.prog 56 [.c (.slice 2 [.int .i64 (Nk a.kind b.kind),.int .i64 (D1 a.args b.args)])] _:=jc4 [Nk a.kind b.kind,D1 a.args b.args] O1;have e:cmpG a b=It [Nk a.kind b.kind,D1 a.args b.args]:=rfl;rw[<-e]at f;generalize cmpG a b=r at*;refine cO Tryz.func22 rfl ?_;simp only[Grd.ds];refine rA ?_;refine AA (Ah [0,1,0,4,15,0,32,0,128,511,1023,2047,4095]) [.any [] [] (Aq [[2],[5],[3],[7],[6,8],[2],[10],[3],[12]]),.one,.one,.one,.one] O5 ?_;refine rA ?_;refine aA i ?_;refine aA j ?_;refine Ac f ?_;exact kA
theorem jAl[DrC](a b:Grd)(e:a.Short)(f:b.Short):CallsF Tryz.prog 24 [.agg a.ds,.agg b.ds] (.u (.c (.d (.bool (decide (cmpG a b=0)))))):=by
 have k:=jrE a b e f;simp only[Grd.ds]at k;refine cO Tryz.func24 rfl ?_;simp only[Grd.ds];refine rA ?_;refine Ac k ?_;exact kA
theorem jAA[DrC](i:Nat)(l:List Grd)(app:Bool)(a:l.length<=1099511627776)(b: ∀g∈l,g.Short):
  Fw Tryz.prog 21 [.c (.sl i 0 l.length),.c (.d (.fn 22 []))] [(i,.row 2 (l.flatMap Grd.ds) app)] [(i,.row 2 ((XL l).flatMap Grd.ds) app)] (.tup []):=
 jiC O Grd.ds_len jsX (λx _=>cmpG_zero.2 rfl) (λx y _ _ h=>cmpG_zero.1 h) Tryz.laysSG rfl ⟨_,Tryz.func21,rfl,O2⟩ Tryz.isAgg46 Tryz.sizeOf46 22
  (enters_of Tryz.func22 O4 rfl) (λx y e f=> @jrE jd6 x y e f) i l app a b
theorem jwL[DrC](l:List Grd)(a:l.length<=1099511627776)(b: ∀g∈l,g.Short):
  CallsA Tryz.prog 23 2 l.length (l.flatMap Grd.ds) [.c (.fn 24 [])] (EM l).length ((EM l).flatMap Grd.ds):=
 jsD 24 jAl l a b
end Go.Va
namespace Go.Va
open Go.Proofs Go.Shelf Go.RowKit Go.Lib Go.Sort
theorem jwJ(l:List Int)(i:Nat)(hi:i<l.length)(hl:l.length<=1099511627776):
  CallsA Tryz.prog 351 1 l.length (l.map i64) [.c (.int .i64 i),.c (.int .i64 (i+1:Int))] (l.length - 1) ((l.eraseIdx i).map i64):=by
 have hpos:0<l.length:=O;refine⟨⟨_,Tryz.func351,rfl,O2⟩,λw Z ρ k v0 vals hZ W T z hv0 hv=> ?_⟩;obtain⟨G,H,rfl⟩: ∃G H,vals=[G,H]:=by
  have:=hv.1
  match vals,this with
  |[G,H],_=>exact⟨G,H,rfl⟩
 have e1:G= .int .i64 (i:Int):=by
  have I:RepD w (Ar ρ Z) (.int .i64 i) G:=hv.2 0 _ _ rfl rfl;cases I;rfl
 have e2:H= .int .i64 ((i+1:Nat):Int):=by
  have I:RepD w (Ar ρ Z) (.int .i64 (i+1:Int)) H:=hv.2 1 _ _ rfl rfl;cases I;rfl
 subst e1 e2;obtain⟨o,N,hroom,hcase⟩:=hv0;obtain⟨f,ho',hb⟩:=W.rep k (.row 1 (l.map i64) true) (by simp[lk]);obtain rfl:f=o:=Bi (ho'.symm.trans N);have S:=hb;obtain⟨hsz,happ,hlen,⟨hn1,E⟩,hc⟩:=S;rcases hcase with⟨_,_,_,h4⟩|⟨hnil,a,c,rfl,Y,J,Q,hcap⟩
 ·omega
 have m:f.gone=false:=by rw[E];exact hnil
 have P: ∀j (y:j<l.length),w.cell? ⟨f.g,f.o+j,none⟩=some (.int .i64 l[j]):=λj y=>by
  obtain⟨v,h1,I⟩:=hc j (i64 l[j]) (by simp[y]);cases I;exact h1
 have hH:Holds (Value.int .i64) w f.g f.o l.toArray:=λj y=>by
  have L:j<l.length:=by simpa using y
  refine⟨?_,(W.owns.cells k f N m j (by rw[hsz];omega)).2⟩;rw[P j L];simp[L]
 have ha:a=⟨f.g,f.o,none⟩:=by
  rcases Q with h|h
  ·omega
  ·rw[h];simp[Own.at]
 subst ha;have K:=AnyG.slices_Delete_int Tryz.laysDel f.g f.o c i (i+1) l w hH Y (by unfold maxLen at J;omega) O O;refine K.mono λe w' ⟨he,q,hw⟩=> ?_;have M:l.take i++l.drop (i+1)++List.replicate (i+1 - i) 0=l.eraseIdx i++[0]:=by
  rw[List.eraseIdx_eq_take_drop_succ,show i+1 - i=1 by omega];rfl
 rw[M]at hw;have p:(l.eraseIdx i).length=l.length - 1:=List.length_eraseIdx_of_lt hi;rw[putRow_eq_setCells (Value.int .i64) w f.g f.o l.toArray _ q hH (by simp[p];omega)]at hw;have X: ∀j x,ρ j=some x-> ¬x.mp:=λj x y hm=>by
  have e:=z j x y;subst e;rw[N]at y;cases y;rw[hm.2,hm.1]at E;cases E
 have ht:=jj3 hZ W T X N m hb (vs:=(l.eraseIdx i++[0]).map (Value.int .i64)) (cs':=(l.eraseIdx i++[0]).map i64) (by simp[p];omega) (jpo _) q #[];have hg:Go.Sort.grow ((w.drewN q).setCells f.g f.o ((l.eraseIdx i++[0]).map (Value.int .i64))) #[]=w':=by
  rw[hw];simp[Go.Sort.grow,Sort.ahead]
 rw[hg]at ht;have F:=ht.2;simp only[rm,if_true]at F;refine⟨_,he,ρ,ht.1,⟨F.owns,λj b r=> ?_⟩,z,λad h=> .inl h,f,N,O,.inr ⟨hnil,_,c,by rw[show i+1 - i=1 by omega],O,J,.inr (by simp[Own.at]),hcap⟩⟩;by_cases e:j=k
 ·subst e;rw[Bt]at r;cases r;obtain⟨o2,ho2,q1,q2,q3,q4,q5⟩:=F.rep j _ (Bt _ _ _);refine⟨o2,ho2,q1,q2,by simp at q3 ⊢;omega,q4,λt x hx=>q5 t x ?_⟩;rw[List.map_append,List.getElem?_append_left (jzg.1 hx).1];exact hx
 ·rw[BD e]at r;cases r
end Go.Va
namespace Go.Va
open _root_.List renaming flatMap_cons → aD, flatMap_nil → aH, cons_append → aI, append_nil → aJ, nil_append → aL, reduceReplicate → aM, map_set → aN
open _root_.Nat renaming add_sub_cancel_left → aG
open Int renaming natCast_add → qA, natCast_mul → qB, natCast_emod → qC, natCast_ediv → qD, natCast_pow → qE
open List renaming reduceReplicate → qF
open Go.Proofs Go.Proofs.Tryz
def cap(c:UInt8):Prop:=65<=c.toNat/\c.toNat<91
def mp:List UInt8->List Int->Bnd->List Bnd
 |[],_,b=>[b]
 |c::r,a,b=>(List.range a.length).flatMap λi=>match b.point (c.toNat - 65) (a.getD i 0)with
  |none=>[]
  |some e=>mp r (a.eraseIdx i) e
def jgq(c:UInt8)(r:List UInt8)(a:List Int)(b:Bnd)(i:Nat):List Bnd:=match b.point (c.toNat - 65) (a.getD i 0)with
 |none=>[]
 |some e=>mp r (a.eraseIdx i) e
def Hf(b:Bnd):List A:=[.agg b.ds]
def XV(c:UInt8)(r:List UInt8)(a:List Int)(b:Bnd)(i:Nat):List (List A):=((List.range' i (a.length - i)).flatMap (jgq c r a b)).map Hf
variable{c:UInt8}{r:List UInt8}{a:List Int}{l:List (Int×Int)}
theorem jxR(c:UInt8)(r:List UInt8)(a:List Int)(b:Bnd):(mp (c::r) a b).map Hf=XV c r a b 0:=by
 unfold XV;rw[mp,List.range_eq_range'];rfl
theorem jyh{b:Bnd}{i:Nat}(h:i<a.length):XV c r a b i=(jgq c r a b i).map Hf++XV c r a b (i+1):=by
 unfold XV;rw[show a.length - i=(a.length - (i+1))+1 by omega,List.range'_succ,aD,List.map_append]
theorem jxi{b:Bnd}:XV c r a b a.length=[]:=by simp[XV]
@[simp]theorem jAo:({ data:= #[] }:ByteArray).toList=[]:=jsq []
@[simp]theorem jCr(l:List UInt8):G6 .eql (bs l) { data:= #[] }=some (vB (decide (l=[]))):=by
 unfold G6;simp only[jsq,jAo];cases l<;>rfl
theorem jpj(x:Value): ∀(l:List UInt8) (a:List Int) (b:Bnd),(∀c∈l,cap c)->(∀p∈a,-1<=p/\p<1000000)->a.length<=1000->l.length<=1000->
  Gy prog x 281 [.c (.str (bs l)),.c (AT a),.agg b.ds,.c (.lit x)] ((mp l a b).map Hf)
 |[],a,b,w,z,G,o=>by
  refine Ps (T:=tb) Ak mixed func281 rfl O2 (Al rfl) rfl rfl ?_;intro f;unfold St.initY;refine rF ?_;refine⟨Hf b,f,by simp[lk,mp],by simp[Hf,St.argsW,U.toA,lk],?_⟩;simp -implicitDefEqProofs[jJ,-qA,-qB,-qF,St.backY,St.rest,LQ]
 |c::r,a,b,w,z,G,o=>by
  rw[jxR];have q:cap c:=w c O1;obtain⟨k,hk⟩: ∃k,c.toNat=65+k:=⟨c.toNat - 65,by unfold cap at q;omega⟩
  have m:k<26:=by unfold cap at q;omega
  refine Ps (T:=tb) Ak mixed func281 rfl O2 (Al rfl) rfl rfl ?_;intro f;unfold St.initY;refine rF ?_;refine AV (λi:Nat=>⟨[(1000000,.tr x (XV c r a b i++f)),(19,vI .i64 i),(18,vI .i64 a.length),(17,vC (.d (AT a))),(6,vC (.ptr 6 0)),(0,vC (.d (.str (bs (c::r))))),(1,vC (.d (AT a))),(3,vC (.d (.lit x)))],[(6,.box b.cs)]⟩)
   (λi=>i<=a.length) (λi=>a.length - i) 0 (by simp[AW,lk,St.le,vI,vC]) O ?_
  rintro i hi;by_cases h:i<a.length
  ·have E:=z a[i] (AZ h);refine rF1 h ?_;refine AA (Ah [0,0,2,0,15,31,63,63,0,383,1023]) [.any [] [10] [⟨0,[6],[10],[10],[]⟩,⟨0,[0],[10],[10],[]⟩,⟨0,[26],[10],[10],[]⟩,⟨0,[9],[10],[10],[]⟩,⟨0,[25,27,28],[10],[10],[]⟩,⟨0,[29],[10],[10],[]⟩,⟨0,[24],[10],[10],[]⟩,⟨0,[24],[10],[10],[]⟩,⟨1,[],[],[],[]⟩,⟨2,[10,30],[],[],[10]⟩],.one] O5 ?_;refine rF1 hk ?_;refine Ae (UK b k m a[i] E) ?_;have t:=jyh (c:=c) (r:=r) (b:=b) h;have g:jgq c r a b i=match b.point k a[i]with|none=>[]|some j=>mp r (a.eraseIdx i) j:=by
    unfold jgq;rw[hk,aG,AL,AD h];rfl
   generalize b.point k a[i]=I at*;cases I with
   |none=>
    simp only at g;rw[g]at t;refine rR1 t ?_;exact⟨O,i+1,⟨rfl,rfl⟩,O,O⟩
   |some j=>
    simp only at g;rw[g]at t;refine rR1 t ?_;refine AA (Ah [0,1,0,4,0,0,32,124,0,0,1023]) [.any [] [36,40] [⟨0,[0],[36,40],[36,40],[]⟩,⟨0,[33],[36,40],[36,40],[]⟩,⟨0,[1],[],[36,40],[]⟩,⟨1,[35],[],[40],[]⟩,⟨0,[8],[36],[36,40],[]⟩,⟨0,[8],[36],[36,40],[]⟩,⟨0,[38],[36],[36,40],[]⟩,⟨5,[36,37,39],[],[],[36]⟩,⟨0,[10],[36,40],[36,40],[]⟩,⟨0,[3],[36,40],[36,40],[]⟩],.one] O5 ?_;refine rF ?_;have y:a≠[]:=λe=>by subst e;simp at h
    refine aF (jlM a O y) ?_;refine⟨O,.inl ⟨36,a.length,1,a.length - 1,40,a.map i64,(a.eraseIdx i).map i64,_,_,rfl,by simp[lk],by simp[U.toA,toD],rfl,jwJ a i h O,?_⟩⟩;refine rF ?_;have H:=jpj x r (a.eraseIdx i) j (λc q=>w c (by simp[q])) (λp F=>z p (List.mem_of_mem_eraseIdx F)) (by have:=List.length_eraseIdx_le (l:=a) (i:=i);omega) (by simp at o;omega);have ex1:(bs (c::r)).extract 1 (1+r.length)=bs r:=by
     have:=jmx (c::r) 1 O1;simpa using this
    have ex2:(a.eraseIdx i).length=a.length - 1:=List.length_eraseIdx_of_lt h;have ex3:List.take (a.length - 1) ((a.eraseIdx i).map i64)=(a.eraseIdx i).map i64:=Ba (by simp[ex2]);refine .inr (.inr (.inl ⟨x,(mp r (a.eraseIdx i) j).map Hf,XV c r a b (i+1)++f,_,by simp[lk],?_,H,?_⟩))
    ·simp[St.argsW,U.toA,toD,St.reachU,DZ,U.all,lk,C.id?,cut,ex1,ex2,ex3,AT,EC]
    ·simp only[St.reachU,aD,aH,U.all,aJ,aI,aL,M4,Bnd.reach_cs,Oj,ND,jwG (show lk 40 [(40,Blk.row 1 ((a.eraseIdx i).map i64) true),(10,Blk.box j.cs),(6,Blk.box b.cs)]=some (Blk.row 1 ((a.eraseIdx i).map i64) true) from rfl)];simp -implicitDefEqProofs[jJ,-qA,-qB,-qF,St.backY,St.rest];exact⟨O,i+1,⟨rfl,rfl⟩,O,O⟩
  ·have v:i=a.length:=O;subst v;rw[jxi];simp -implicitDefEqProofs[jJ,-qA,-qB,-qF,LQ]
def jkW:List (List Nat):=(Ah [0,0,2,0,0,8,56,120,255,511,1023,1023,0,6143,16383])
@[simp]def jlQ:List Seg:=[.any [] [11] [⟨0,[6],[11],[11],[]⟩,⟨0,[0],[11],[11],[]⟩,⟨0,[44],[11],[11],[]⟩,⟨0,[1],[11],[11],[]⟩,⟨0,[10],[11],[11],[]⟩,⟨0,[46],[11],[11],[]⟩,⟨0,[47,48],[11],[11],[]⟩,⟨0,[49],[11],[11],[]⟩,⟨0,[43,45,50],[11],[11],[]⟩,⟨0,[51],[11],[11],[]⟩,⟨0,[42],[11],[11],[]⟩,⟨0,[42],[11],[11],[]⟩,⟨1,[],[],[],[]⟩,⟨2,[11,52],[],[],[11]⟩],.one]
def jnE:List (List Nat):=(Ah [0,0,2,0,0,16,8,120,248,511,1023,2047,2047,4095,16383])
@[simp]def jpV:List Seg:=[.any [] [] (Aq [[11],[0],[58],[1],[10],[61],[60],[62,63],[64]]),.one,.one,.any [] [] [⟨0,[56],[],[],[]⟩,⟨0,[56],[11],[],[]⟩,⟨2,[11,67],[],[],[11]⟩],.one]
def jiu:List (List Nat):=(Ah [0,1,3,7,0,16,48,112,255])
@[simp]def jgo:List Seg:=[.any [] [] (Aq [[1],[77],[78],[79],[1],[81],[82],[83]]),.one]
def jno:List (List Nat):=(Ah [0,1,0,4,0,0,63])
@[simp]def jsO:List Seg:=[.any [] [] (Aq [[0],[70],[1],[72],[11],[3]]),.one]
def ms:List UInt8->List (Int×Int)->Bnd->List Bnd
 |[],_,b=>[b]
 |_::_,[],b=>[]
 |c::r,s::l,b=>if 97<=c.toNat then (match b.segment (c.toNat - 97) s with|none=>[]|some f=>ms r l f) else
  match r with
  |[]=>[]
  |d::r=>(match b.point (c.toNat - 65) s.1 with|none=>[]|some a=>match a.point (d.toNat - 65) s.2 with|none=>[]|some e=>ms r l e)++
   (if s.1=s.2 then [] else match b.point (c.toNat - 65) s.2 with|none=>[]|some a=>match a.point (d.toNat - 65) s.1 with|none=>[]|some e=>ms r l e)
def Th(c d:UInt8)(r:List UInt8)(l:List (Int×Int))(b:Bnd)(p q:Int):List Bnd:=
 match b.point (c.toNat - 65) p with|none=>[]|some a=>match a.point (d.toNat - 65) q with|none=>[]|some e=>ms r l e
def Qj:List UInt8->List (Int×Int)->Prop
 |[],_=>True
 |_::_,[]=>False
 |c::r,_::l=>if 97<=c.toNat then c.toNat<123/\Qj r l else
  match r with
  |[]=>False
  |d::r=>cap c/\cap d/\Qj r l
theorem jgN{d:UInt8}{s:Int×Int}{b:Bnd}(h: ¬97<=c.toNat):ms (c::d::r) (s::l) b=Th c d r l b s.1 s.2++(if s.1=s.2 then [] else Th c d r l b s.2 s.1):=by
 simp only[ms,if_neg h];rfl
theorem jjM{s:Int×Int}(h:97<=c.toNat):Qj (c::r) (s::l)=(c.toNat<123/\Qj r l):=by
 cases r<;>simp only[Qj,if_pos h]
theorem jfx{s:Int×Int}{b:Bnd}(h:97<=c.toNat):ms (c::r) (s::l) b=match b.segment (c.toNat - 97) s with|none=>[]|some a=>ms r l a:=by
 cases r<;>simp only[ms,if_pos h]
theorem jn9{s:Int×Int}(h: ¬97<=c.toNat)(b:Qj (c::r) (s::l)): ∃d a,r=d::a/\cap c/\cap d/\Qj a l:=by
 cases r with
 |nil=>simp_all[Qj,if_neg]
 |cons d r=>simp only[Qj,if_neg h]at b;grind
def U5(s:Int×Int):Prop:=(-1<=s.1/\s.1<1000000)/\(-1<=s.2/\s.2<1000000)
@[simp]theorem jCd(h:List (Nat×Blk))(s:Int×Int)(l:List (Int×Int)):sliceV h (.d (Ta (s::l))) (some 1) none 2=some (.d (Ta l)):=by
 unfold Ta;simp[sliceV,Gb,cut,LC];constructor
 ·omega
 ·rw[Ba O1];exact⟨O,rfl⟩
theorem juT(x:Value): ∀(n:Nat) (ls:List UInt8) (l:List (Int×Int)) (b:Bnd),ls.length<=n->Qj ls l->(∀s∈l,U5 s)->l.length<=1000->ls.length<=1000->
  Gy prog x 284 [.c (.str (bs ls)),.c (Ta l),.agg b.ds,.c (.lit x)] ((ms ls l b).map Hf):=by
 intro n
 induction n with
 |zero=>
  intro ls l b J e G t v;have:ls=[]:=O3;subst this;refine Ps (T:=tb) Ak mixed func284 rfl O2 (Al rfl) rfl rfl ?_;intro a;unfold St.initY;simp -implicitDefEqProofs[jJ,-qA,-qB,-qC,-qD,-qE,-qF];refine⟨Hf b,a,by simp[lk,ms],by simp[Hf,St.argsW,U.toA,lk],?_⟩;simp_all[aN,jaW,Int.natCast_add,Int.natCast_mul,Int.natCast_emod,Int.natCast_ediv,Int.natCast_pow,XW,SS,jcn,WN,jeM,jgi,Sy,jjm,Pc,VD,TV,jf4,QG,jfQ,jcP,jhO,jer,jhd,jfc,Xt,jca,jfu,jap,jcG,jaL,aM,St.backY,St.rest,LQ]
 |succ n L=>
  intro ls l b J e G t v
  match ls,l,e with
  |[],l,_=>
   grind
  |c::r,s::l,e=>
   have h:U5 s:=G s O1;by_cases o:97<=c.toNat
   ·obtain⟨k,hk⟩: ∃k,c.toNat=97+k:=⟨c.toNat - 97,O⟩
    rw[jjM o]at e;have f:k<26:=O;have w:ms (c::r) (s::l) b=match b.segment k s with|none=>[]|some I=>ms r l I:=by
     rw[jfx o,hk,aG]
    have ex1:(bs (c::r)).extract 1 (1+r.length)=bs r:=by
     have:=jmx (c::r) 1 O1;simpa using this
    refine Ps (T:=tb) Ak mixed func284 rfl O2 (Al rfl) rfl rfl ?_;intro a;unfold St.initY;simp -implicitDefEqProofs[jJ,-qA,-qB,-qC,-qD,-qE,-qF];refine Ac (ji8 c.toNat) ?_;simp -implicitDefEqProofs[jJ,-qA,-qB,-qC,-qD,-qE,-qF,o];refine AA (Ah [0,0,2,0,8,24,63,127,255,255,0,1535,4095]) [.any [] [8] [⟨0,[6],[8],[8],[]⟩,⟨0,[0],[8],[8],[]⟩,⟨0,[23],[8],[8],[]⟩,⟨0,[1],[8],[8],[]⟩,⟨0,[25],[8],[8],[]⟩,⟨0,[26],[8],[8],[]⟩,⟨0,[22,24,27],[8],[8],[]⟩,⟨0,[28],[8],[8],[]⟩,⟨0,[21],[8],[8],[]⟩,⟨0,[21],[8],[8],[]⟩,⟨1,[],[],[],[]⟩,⟨2,[8,29],[],[],[8]⟩],.one] O5 ?_;simp -implicitDefEqProofs[jJ,-qA,-qB,-qC,-qD,-qE,-qF,hk,LC];refine Ae (jyt b k f s.1 s.2 h.1 h.2) ?_;generalize Q:b.segment k (s.1,s.2)=S at*;cases S with
    |none=>
     simp only at w;rw[w];simp -implicitDefEqProofs[jJ,-qA,-qB,-qC,-qD,-qE,-qF,KI,LQ]
    |some I=>
     simp only at w;rw[w];simp -implicitDefEqProofs[jJ,-qA,-qB,-qC,-qD,-qE,-qF,KI];refine AA (Ah [0,1,0,4,0,0,63]) [.any [] [] (Aq [[0],[32],[1],[34],[8],[3]]),.one] O5 ?_;simp -implicitDefEqProofs[jJ,-qA,-qB,-qC,-qD,-qE,-qF,ex1];have F:=L r l I (by simp at J;omega) e.2 (λs h=>G s (by simp[h])) (by simp at t;omega) (by simp at v;omega);refine .inr (.inr (.inl ⟨x,(ms r l I).map Hf,a,_,by simp[lk],?_,F,?_⟩))
     ·simp
     ·simp only[St.reachU,aD,aH,U.all,aJ,aI,aL,M4,Bnd.reach_cs,Oj,ND];simp -implicitDefEqProofs[jJ,-qA,-qB,-qC,-qD,-qE,-qF,St.backY,St.rest,LQ]
   ·obtain⟨d,r,rfl,W,X,e⟩:=jn9 o e;obtain⟨k,hk⟩: ∃k,c.toNat=65+k:=⟨c.toNat - 65,by grind[cap]⟩
    obtain⟨j,hj⟩: ∃j,d.toNat=65+j:=⟨d.toNat - 65,by grind[cap]⟩
    have f:k<26:=by grind[cap]
    have y:j<26:=by grind[cap]
    have K:(97<=65+k)=False:=by simp;omega
    have ex2:(bs (c::d::r)).extract 2 (2+r.length)=bs r:=by
     have:=jmx (c::d::r) 2 O1;simpa using this
    rw[jgN o];have P: ∀p q,Th c d r l b p q=match b.point k p with|none=>[]|some z=>match z.point j q with|none=>[]|some E=>ms r l E:=(by simp_all[Th,aG])
    refine Ps (T:=tb) Ak mixed func284 rfl O2 (Al rfl) rfl rfl ?_;intro a;unfold St.initY;simp -implicitDefEqProofs[jJ,-qA,-qB,-qC,-qD,-qE,-qF];refine Ac (ji8 c.toNat) ?_;simp -implicitDefEqProofs[jJ,-qA,-qB,-qC,-qD,-qE,-qF,hk,K];refine AV (λi:Nat=>⟨[(1000000,.tr x ((match i with|0=>(Th c d r l b s.1 s.2++(if s.1=s.2 then [] else Th c d r l b s.2 s.1))|1=>(if s.1=s.2 then [] else Th c d r l b s.2 s.1)|_=>[]).map Hf++a)),(39,vI .i64 i),(6,vC (.ptr 6 0)),(0,vC (.d (.str (bs (c::d::r))))),(1,vC (.d (Ta (s::l)))),(3,vC (.d (.lit x)))],[(6,.box b.cs)]⟩)
     (λi=>i<=2/\(i=1->s.1=s.2->b.point k s.1=none)) (λi=>2 - i) 0 O1 O1 ?_
    rintro i hi
    match i,hi with
    |0,_=>
     simp -implicitDefEqProofs[jJ,-qA,-qB,-qC,-qD,-qE,-qF];refine AA jkW jlQ O5 ?_;simp -implicitDefEqProofs[jJ,-qA,-qB,-qC,-qD,-qE,-qF,hk,LC];refine Ae (UK b k f s.1 h.1) ?_;have g:=P s.1 s.2;generalize b.point k s.1=M at*;cases M with
     |none=>
      simp only at g;simp -implicitDefEqProofs[jJ,-qA,-qB,-qC,-qD,-qE,-qF,KI,g];grind
     |some z=>
      simp only at g;simp -implicitDefEqProofs[jJ,-qA,-qB,-qC,-qD,-qE,-qF,KI];refine AA jnE jpV O5 ?_;simp -implicitDefEqProofs[jJ,-qA,-qB,-qC,-qD,-qE,-qF,hj,LC];refine Ac (UK z j y s.2 h.2) ?_;generalize z.point j s.2=N at*;cases N with
      |none=>
       simp only at g;simp -implicitDefEqProofs[jJ,-qA,-qB,-qC,-qD,-qE,-qF,KI,g];refine AA jiu jgo O5 ?_;simp -implicitDefEqProofs[jJ,-qA,-qB,-qC,-qD,-qE,-qF,LC];by_cases m:s.1=s.2
       ·simp -implicitDefEqProofs[jJ,-qA,-qB,-qC,-qD,-qE,-qF,i64,m,LQ]
       ·simp -implicitDefEqProofs[jJ,-qA,-qB,-qC,-qD,-qE,-qF,i64,m];grind
      |some E=>
       simp only at g;simp -implicitDefEqProofs[jJ,-qA,-qB,-qC,-qD,-qE,-qF,KI,g];refine AA jno jsO O5 ?_;simp -implicitDefEqProofs[jJ,-qA,-qB,-qC,-qD,-qE,-qF,ex2];have F:=L r l E (by simp at J;omega) e (λs h=>G s (by simp[h])) (by simp at t;omega) (by simp at v;omega);refine .inr (.inr (.inl ⟨x,(ms r l E).map Hf,(if s.1=s.2 then [] else Th c d r l b s.2 s.1).map Hf++a,_,by simp[lk],?_,F,?_⟩))
       ·simp
       ·simp only[St.reachU,aD,aH,U.all,aJ,aI,aL,M4,Bnd.reach_cs,Oj,ND];simp -implicitDefEqProofs[jJ,-qA,-qB,-qC,-qD,-qE,-qF,St.backY,St.rest];refine AA jiu jgo O5 ?_;simp -implicitDefEqProofs[jJ,-qA,-qB,-qC,-qD,-qE,-qF,LC];by_cases m:s.1=s.2
        ·simp -implicitDefEqProofs[jJ,-qA,-qB,-qC,-qD,-qE,-qF,i64,m,LQ]
        ·simp -implicitDefEqProofs[jJ,-qA,-qB,-qC,-qD,-qE,-qF,i64,m];grind
    |1,hi=>
     by_cases m:s.1=s.2
     ·have H:=hi.2 rfl m;rw[m]at H;simp -implicitDefEqProofs[jJ,-qA,-qB,-qC,-qD,-qE,-qF,m];refine AA jkW jlQ O5 ?_;simp -implicitDefEqProofs[jJ,-qA,-qB,-qC,-qD,-qE,-qF,hk,LC];refine Ae (UK b k f s.2 h.2) ?_;rw[H];simp -implicitDefEqProofs[jJ,-qA,-qB,-qC,-qD,-qE,-qF,KI];grind
     simp -implicitDefEqProofs[jJ,-qA,-qB,-qC,-qD,-qE,-qF,m];refine AA jkW jlQ O5 ?_;simp -implicitDefEqProofs[jJ,-qA,-qB,-qC,-qD,-qE,-qF,hk,LC];refine Ae (UK b k f s.2 h.2) ?_;have g:=P s.2 s.1;generalize b.point k s.2=M at*;cases M with
     |none=>
      simp only at g;simp -implicitDefEqProofs[jJ,-qA,-qB,-qC,-qD,-qE,-qF,KI,g];grind
     |some z=>
      simp only at g;simp -implicitDefEqProofs[jJ,-qA,-qB,-qC,-qD,-qE,-qF,KI];refine AA jnE jpV O5 ?_;simp -implicitDefEqProofs[jJ,-qA,-qB,-qC,-qD,-qE,-qF,hj,LC];refine Ac (UK z j y s.1 h.1) ?_;generalize z.point j s.1=N at*;cases N with
      |none=>
       simp only at g;simp -implicitDefEqProofs[jJ,-qA,-qB,-qC,-qD,-qE,-qF,KI,g];refine AA jiu jgo O5 ?_;simp -implicitDefEqProofs[jJ,-qA,-qB,-qC,-qD,-qE,-qF,LC];simp -implicitDefEqProofs[jJ,-qA,-qB,-qC,-qD,-qE,-qF,i64,m];grind
      |some E=>
       simp only at g;simp -implicitDefEqProofs[jJ,-qA,-qB,-qC,-qD,-qE,-qF,KI,g];refine AA jno jsO O5 ?_;simp -implicitDefEqProofs[jJ,-qA,-qB,-qC,-qD,-qE,-qF,ex2];have F:=L r l E (by simp at J;omega) e (λs h=>G s (by simp[h])) (by simp at t;omega) (by simp at v;omega);refine .inr (.inr (.inl ⟨x,(ms r l E).map Hf,a,_,by simp[lk],?_,F,?_⟩))
       ·simp
       ·simp only[St.reachU,aD,aH,U.all,aJ,aI,aL,M4,Bnd.reach_cs,Oj,ND];simp -implicitDefEqProofs[jJ,-qA,-qB,-qC,-qD,-qE,-qF,St.backY,St.rest];refine AA jiu jgo O5 ?_;simp -implicitDefEqProofs[jJ,-qA,-qB,-qC,-qD,-qE,-qF,LC];simp -implicitDefEqProofs[jJ,-qA,-qB,-qC,-qD,-qE,-qF,i64,m];grind
    |2,_=>
     simp_all[aN,jaW,Int.natCast_add,Int.natCast_mul,Int.natCast_emod,Int.natCast_ediv,Int.natCast_pow,XW,SS,jcn,WN,jeM,jgi,Sy,jjm,Pc,VD,TV,jf4,QG,jfQ,jcP,jhO,jer,jhd,jfc,Xt,jca,jfu,jap,jcG,jaL,aM,LQ]
end Go.Va
