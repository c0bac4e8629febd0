/- a part of the proof -/
import Derived.Test.YtplacedebenpaaaGreatDoorEaz
import Derived.Test.YtplacedebenpaaaGreatDoorEba
import Derived.Test.YtplacedebenpaaaGreatDoorEay
import Derived.Test.YtplacedebenpaaaGreatDoorEat
import Derived.Test.YtplacedebenpaaaGreatDoorEar
set_option linter.all false
set_option maxHeartbeats 4000000
set_option maxRecDepth 10000
namespace Go.Va
open _root_.List renaming mem_or_eq_of_mem_set → aD, mem_singleton → aG, mem_flatMap → aH, getElem_mem → aI
open Go.Proofs
theorem VZ(l:List Int){i:Nat}(h:i<l.length):l.getD i 0=l[i]:=O3
theorem jgr(l:List Int){i:Nat}(h:l.length<=i):l.getD i 0=0:=O3
theorem Bnd.setP_ok{b:Bnd}(h:b.Ok)(k:Nat){x:Int}(e:0<=x/\x<2000000):(b.setP k x).Ok:=by
 intro y a;rcases aD a with h1|h1
 ·exact h y h1
 omega
theorem Bnd.setS_ok{b:Bnd}(h:b.Ok)(k:Nat){x y:Int}(e:0<=x/\x<2000000)(f:0<=y/\y<2000000):(b.setS k x y).Ok:=by
 intro z a;rcases aD a with h1|h1
 ·rcases aD h1 with h2|h2
  ·exact h z h2
  omega
 omega
theorem Bnd.point_ok{b a:Bnd}(h:b.Ok){k:Nat}{p:Int}(f: -1<=p/\p<1000000)(e:b.point k p=some a):a.Ok:=by
 grind[Bnd.point,Bnd.setP_ok]
theorem Bnd.segment_ok{b a:Bnd}(h:b.Ok){k:Nat}{s:Int×Int}(f:U5 s)(e:b.segment k s=some a):a.Ok:=by
 obtain⟨g,i⟩:=f;grind[Bnd.segment,Bnd.setS_ok]
theorem jrH: ∀(l:List UInt8) (a:List Int) (b:Bnd),(∀p∈a,-1<=p/\p<1000000)->b.Ok-> ∀c∈mp l a b,c.Ok
 |[],_,b,_,j=>by
  grind[mp,aG]
 |x::r,a,b,m,j=>by
  intro c f;rw[mp,aH]at f;obtain⟨i,hi,f⟩:=f;rw[List.mem_range]at hi;split at f
  ·cases f
  ·rename_i k e;have g: -1<=a.getD i 0/\a.getD i 0<1000000:=by
    simp_all
   exact jrH r (a.eraseIdx i) k (λp h=>m p (List.mem_of_mem_eraseIdx h)) (Bnd.point_ok j g e) c f
theorem jjC: ∀(n:Nat) (ls:List UInt8) (l:List (Int×Int)) (b:Bnd),ls.length<=n->(∀s∈l,U5 s)->b.Ok-> ∀c∈ms ls l b,c.Ok
 |n,[],l,b,_,k,i=>by
  grind[ms,aG]
 |n,x::r,[],b,_,k,i=>by
  grind[ms]
 |0,x::r,s::l,b,j,_,_=>by simp at j
 |n+1,x::r,s::l,b,j,k,i=>by
  intro c hc;have h:U5 s:=k s O1;have g: ∀t∈l,U5 t:=O3;by_cases f:97<=x.toNat
  ·rw[jfx f]at hc;split at hc
   ·cases hc
   ·rename_i m e;exact jjC n r l m (by simp at j;omega) g (Bnd.segment_ok i h e) c hc
  ·cases r with
   |nil=>simp_all[ms,if_neg]
   |cons d r=>
    have a: ∀p q:Int,(-1<=p/\p<1000000)->(-1<=q/\q<1000000)-> ∀c∈Th x d r l b p q,c.Ok:=by
     intro p q y z c hc;unfold Th at hc;split at hc
     ·cases hc
     ·rename_i E v;split at hc
      ·cases hc
      ·rename_i o w;exact jjC n r l o (by simp at j;omega) g (Bnd.point_ok (Bnd.point_ok i y v) z w) c hc
    rw[jgN f,List.mem_append]at hc;rcases hc with hc|hc
    ·exact a _ _ h.1 h.2 c hc
    ·split at hc
     ·cases hc
     ·exact a _ _ h.2 h.1 c hc
theorem jnM{x y z:Nat}{b:Bnd}(h:b.Ok){m p q:Int}(i: -1<=m/\m<1000000)(j: -1<=p/\p<1000000)(k: -1<=q/\q<1000000): ∀c∈SL x y z b m p q,c.Ok:=by
 intro c a;unfold SL at a;split at a
 ·cases a
 ·rename_i l e;split at a
  ·cases a
  ·rename_i o f;split at a
   ·cases a
   ·rename_i r g;rw[aG]at a;subst a;exact Bnd.point_ok (Bnd.point_ok (Bnd.point_ok h i e) j f) k g
def SB(p:Pat)(f:Fct)(b:Bnd):List Bnd:=
 if p.kind=1\/p.kind=6\/p.kind=8 then (if f.kind=p.kind then mp p.letters f.args b else [])
 else if p.kind=5 then (if f.kind=5 then SL ((p.letters.getD 0 0).toNat - 65) ((p.letters.getD 1 0).toNat - 65) ((p.letters.getD 2 0).toNat - 65) b (f.args.getD 0 0) (f.args.getD 1 0) (f.args.getD 2 0)++SL ((p.letters.getD 0 0).toNat - 65) ((p.letters.getD 1 0).toNat - 65) ((p.letters.getD 2 0).toNat - 65) b (f.args.getD 0 0) (f.args.getD 2 0) (f.args.getD 1 0) else [])
 else (rdg p.kind f).flatMap λl=>ms p.letters l b
def Pat.Fit(p:Pat):Prop:=p.letters.length<=1000/\
 ((p.kind=1\/p.kind=6\/p.kind=8)/\(∀c∈p.letters,cap c)\/
 p.kind=5/\(∃a b e,p.letters=[a,b,e]/\cap a/\cap b/\cap e)\/
 (p.kind=2\/p.kind=3\/p.kind=4)/\(∀u v,Qj p.letters [u,v])\/
 p.kind=7/\ ∀u v w z,Qj p.letters [u,v,w,z])
theorem T9{a b:Int}(e:0<=a/\a<40)(f:0<=b/\b<40):U5 (AQ a b):=by
 unfold AQ U5;have g:=TY e f;have h:=Tl e f;simp only;omega
theorem juz(p:Pat)(f:Fct)(M:p.Fit)(X:f.Rt)(b:Bnd): ∀x,Gy Tryz.prog x 183 [.agg p.ds,.agg f.ds,.agg b.ds,.c (.lit x)] ((SB p f b).map Hf):=by
 intro x;obtain⟨h1,K,i,h4⟩:=X.parts;have T: ∀a∈f.args,-1<=a/\a<1000000:=O3;have W:f.args.length<=8:=by
  grind[arity]
 obtain⟨k,M⟩:=M;unfold SB;rcases M with⟨z,hc⟩|⟨z,c1,c2,c3,E,k1,k2,k3⟩|⟨z,S⟩|⟨z,S⟩
 ·rw[if_pos z];grind[juh]
 ·rw[if_neg O,if_pos z];by_cases L:f.kind=5
  ·rw[if_pos L];obtain⟨m,u,v,g⟩:=RA (by rw[K,L];rfl:f.args.length=3);grind[cap,jwq]
  ·rw[if_neg L];grind[jvH]
 ·rw[if_neg O,if_neg O];by_cases y:p.kind=2/\f.kind=1
  ·obtain⟨a,e,c,g⟩:=RA (by rw[K,y.2];rfl:f.args.length=3);have G:=i a (by simp[g]);have H:=i e (by simp[g]);have I:=i c (by simp[g]);have J:=jAw f y.2 a e c g;rw[<-y.1]at J;have w:rdg p.kind f=[[AQ a e,AQ a c],[AQ a e,AQ e c],[AQ a c,AQ a e],[AQ a c,AQ e c],[AQ e c,AQ a e],[AQ e c,AQ a c]]:=by
    simp_all[rdg,if_pos]
   rw[w];refine jdq x p f b O _ O1 J ?_ k;intro l E;simp only[jzn,E8,or_false]at E;have P:=T9 G H;have Q:=T9 G I;have t3:=T9 H I;grind
  ·by_cases j:f.kind=p.kind
   ·obtain⟨a,e,c,d,g⟩:=KQ (by rw[K,j];rcases z with h|h|h<;>rw[h]<;>rfl:f.args.length=4);have G:=i a (by simp[g]);have H:=i e (by simp[g]);have I:=i c (by simp[g]);have N:=i d (by simp[g]);have F:Hg f.args=[AQ a e,AQ c d]:=by rw[g];rfl
    have w:rdg p.kind f=[[AQ a e,AQ c d],[AQ c d,AQ a e]]:=by
     simp_all[rdg,if_neg]
    rw[w];have P:=T9 G H;have Q:=T9 I N;refine jdq x p f b O _ O1 (jw1 p.kind f j O _ _ F O) ?_ k;intro l E;simp only[jzn,E8,or_false]at E;rcases E with rfl|rfl<;>exact⟨S _ _,by simp[P,Q],O1⟩
   ·have w:rdg p.kind f=[]:=by simp_all[rdg,if_neg,if_pos]
    rw[w];exact jdq x p f b O [] O1 (jrz p.kind f y j) O1 k
 ·rw[if_neg O,if_neg O];by_cases j:f.kind=p.kind
  ·obtain⟨a,e,c,d,o,t,q,r,g⟩:=VH (by rw[K,j,z];rfl:f.args.length=8);have G:=i a (by simp[g]);have H:=i e (by simp[g]);have I:=i c (by simp[g]);have N:=i d (by simp[g]);have Y:=i o (by simp[g]);have Z:=i t (by simp[g]);have q7:=i q (by simp[g]);have q8:=i r (by simp[g]);have F:Hg f.args=[AQ a e,AQ c d,AQ o t,AQ q r]:=by rw[g];rfl
   have P:=T9 G H;have Q:=T9 I N;have t3:=T9 Y Z;have t4:=T9 q7 q8;have J:=jBn f O _ _ _ _ F O;rw[<-z]at J;have w:rdg p.kind f=[[AQ a e,AQ c d,AQ o t,AQ q r],[AQ a e,AQ o t,AQ c d,AQ q r],[AQ q r,AQ c d,AQ o t,AQ a e],[AQ q r,AQ o t,AQ c d,AQ a e],[AQ c d,AQ a e,AQ q r,AQ o t],[AQ c d,AQ q r,AQ a e,AQ o t],[AQ o t,AQ a e,AQ q r,AQ c d],[AQ o t,AQ q r,AQ a e,AQ c d]]:=by
    simp_all[rdg,if_neg]
   rw[w];refine jdq x p f b O _ O1 J ?_ k;intro l E;simp only[jzn,E8,or_false]at E;rcases E with rfl|rfl|rfl|rfl|rfl|rfl|rfl|rfl<;>exact O3
  ·have w:rdg p.kind f=[]:=by simp_all[rdg,if_neg,if_pos]
   rw[w];exact jdq x p f b O [] O1 (jrz p.kind f O j) O1 k
theorem jqG: ∀(l:List Int),(∀a∈l,0<=a/\a<40)-> ∀s∈Hg l,U5 s
 |[],_=>by simp[Hg]
 |[a],_=>by simp[Hg]
 |a::b::l,h=>by
  intro s hs;rw[Hg,jzn]at hs;rcases hs with rfl|hs
  ·grind[T9]
  ·exact jqG l O3 s hs
theorem jys(k:Int)(f:Fct)(j:f.Rt): ∀l∈rdg k f,∀s∈l,U5 s:=by
 obtain⟨m,o,h,p⟩:=j.parts;have b: ∀i,0<=f.args.getD i 0/\f.args.getD i 0<40:=by
  grind[Nat.lt_or_ge,VZ,aI,jgr]
 have g:=jqG f.args h;intro l a s q;unfold rdg at a;split at a
 ·have r:=T9 (b 0) (b 1);have t:=T9 (b 0) (b 2);have x:=T9 (b 1) (b 2);grind
 ·split at a
  ·cases a
  ·split at a
   ·grind
   ·rename_i u v w z e;rw[e]at g;simp only[jzn,E8,or_false]at a g;grind
   ·cases a
theorem jBs(p:Pat)(f:Fct)(e:f.Rt)(b:Bnd)(g:b.Ok): ∀c∈SB p f b,c.Ok:=by
 obtain⟨j,k,m,o⟩:=e.parts;have q: ∀i,-1<=f.args.getD i 0/\f.args.getD i 0<1000000:=by
  grind[Nat.lt_or_ge,VZ,aI,jgr]
 intro c a;unfold SB at a;split at a
 ·grind[jrH]
 ·split at a
  ·grind[jnM]
  ·rw[aH]at a;obtain⟨l,h,a⟩:=a;exact jjC _ _ l b (AO _) (jys p.kind f e l h) g c a
end Go.Va
namespace Go.Va
open _root_.List renaming flatMap_cons → aD, flatMap_nil → aG, cons_append → aH, append_nil → aI, nil_append → aJ, replicate → aL, map_drop → aM, map_take → aN
open Int renaming natCast_add → qA, natCast_mul → qB
open List renaming reduceReplicate → qF
open Go.Proofs Go.Proofs.Tryz
def Nw(l:List Grd):List Grd:=EM (XL l)
variable{l:List Grd}{a:List Pat}
theorem jfh(l:List Grd):(XL l).length=l.length:=jei l
theorem sortG_mem{g:Grd}:g∈XL l↔g∈l:=(TF l).mem_iff
theorem jjs: ∀l:List Grd,(EM l).Sublist l
 |a::b::l=>by
  rw[EM];split
  ·exact .cons _ (jjs _)
  ·exact .cons_cons _ (jjs _)
 |[a]=> .refl _
 |[]=> .refl _
theorem jiM{g:Grd}(h:g∈Nw l):g∈l:=sortG_mem.1 ((jjs _).subset h)
theorem jmV(l:List Grd):(Nw l).length<=l.length:=by
 have:=jpW (XL l);rwa [jfh]at this
theorem jyC(l:List Grd)(f:l.length<=1099511627776)(a: ∀g∈l,g.Short):
  CallsA prog 285 2 l.length (l.flatMap Grd.ds) [] (Nw l).length ((Nw l).flatMap Grd.ds):=by
 have h:=λi=>jx7 i l true f a;have b:=jAU (XL l) (by rw[jfh];omega) (λg e=>a g (sortG_mem.1 e));rw[jfh]at b;refine Rc (T:=tb) Ak mixed func285 rfl O2 (Al rfl) rfl ?_;unfold St.initA;simp -implicitDefEqProofs[jJ,-qA,-qB,BK];refine .inr (.inl (Hn (h 2000000) (by simp[DB,U.all,C.id?]) (by simp[lk]) ?_));simp -implicitDefEqProofs[jJ,-qA,-qB,St.backW];refine .inr (.inr (.inr (.inr (.inr ⟨rfl,2000000,l.length,2,_,_,(XL l).flatMap Grd.ds,_,_,[_],rfl,by simp[lk],rfl,rfl,b,?_⟩))));simp -implicitDefEqProofs[jJ,-qA,-qB,St.drop,Sz,Nw]
def Pat.Ok(p:Pat):Prop:=p.letters≠[]/\p.letters.length<=1000/\ ∀c∈p.letters,Pq c
def H9(b:Bnd)(p:Pat):List Int:=LI (Jg b p.letters)
def Zl(b:Bnd)(p:Pat):Grd:=⟨p.kind,H9 b p⟩
def Mw:List Int->Bool
 |a::b::l=>if a=b then true else Mw (b::l)
 |_=>false
def guardsL(b:Bnd)(a:List Pat):List Grd:=if a.any (λp=>Mw (H9 b p)) then [] else Nw (a.map (Zl b))
def ZA(b:Bnd)(a:List Pat):Bool:= !a.any (λp=>Mw (H9 b p))
theorem juZ(b:Bnd)(c:UInt8):QT b c≠[]:=by unfold QT;split<;>simp
theorem juv(b:Bnd){l:List UInt8}(h:l≠[]):Jg b l≠[]:=by
 cases l with
 |nil=>exact absurd rfl h
 |cons c r=>
  unfold Jg;rw[aD];simp[juZ]
theorem jdt(b:Bnd)(l:List UInt8):(Jg b l).length<=2*l.length:=by
 unfold Jg
 induction l with
 |nil=>simp
 |cons c r a=>
  have:(QT b c).length<=2:=by unfold QT;split<;>simp
  rw[aD,List.length_append,List.length_cons];omega
theorem twice_iff: ∀{l:List Int},Mw l=true↔ ∃i,∃h:i+1<l.length,l[i+1]=l[i]
 |[]=>by simp[Mw]
 |[a]=>by simp[Mw]
 |a::b::l=>by
  rw[Mw];by_cases h:a=b
  ·rw[if_pos h];simp only[true_iff];exact⟨0,O1,by simp[h]⟩
  ·rw[if_neg h,twice_iff];constructor
   ·rintro⟨i,hi,e⟩;exact⟨i+1,by simp at hi ⊢;omega,by simpa using e⟩
   ·rintro⟨i,hi,e⟩;cases i with
    |zero=>exact absurd (by simpa using e.symm) h
    |succ i=>exact⟨i,by simp at hi ⊢;omega,by simpa using e⟩
theorem jAE{l:List Int}(h: ∀i (h:i+1<l.length),l[i+1]≠l[i]):Mw l=false:=by
 rw[Bool.eq_false_iff];intro a;obtain⟨i,b,e⟩:=twice_iff.1 a;exact h i b e
theorem jAp(l:List Pat)(i:Nat)(h:i<l.length):((l.flatMap Pat.ds).drop (i*3)).take 3=l[i].ds:=Ic Pat.ds_len l i h
theorem jlN(l:List Pat)(i:Nat)(h:i<l.length):((l.flatMap Pat.ds).map C.d|>.drop (i*3)).take 3=[.d (.int .i64 l[i].kind),.d (.str (bs l[i].letters)),.d (.int .i64 l[i].n)]:=by
 have:=jAp l i h;rw[<-aM,<-aN,this];rfl
@[simp high]theorem pat_len(l:List Pat):(l.flatMap Pat.ds).length=l.length*3:=Qw Pat.ds_len l
def Ud(b:Bnd)(a:List Pat)(i:Nat):List Grd:=(a.take i).map (Zl b)
theorem jsJ{b:Bnd}{i:Nat}(h:i<=a.length):(Ud b a i).length=i:=by simp[Ud];omega
theorem jxp{b:Bnd}{i:Nat}(h:i<a.length):Ud b a (i+1)=Ud b a i++[Zl b a[i]]:=by
 unfold Ud;rw[Cr h,List.map_append];rfl
theorem jwo(b:Bnd)(P:b.Ok)(a:List Pat)(G: ∀p∈a,p.Ok)(hl:a.length<=1000):
  CallsF prog 185 [.c (MB a),.agg b.ds] (.tup [.c (.own 2 (guardsL b a).length ((guardsL b a).flatMap Grd.ds)),.c (.d (.bool (ZA b a)))]):=by
 refine cO func185 rfl ?_;simp only[MB];refine rF ?_;refine CE [(6,45)] (λi:Nat=>⟨[(13,vI .i64 i),(12,vI .i64 a.length),(11,vC (.d (.slice a.length (a.flatMap Pat.ds)))),(6,vC (.sl 6 0 i)),(3,vC (.ptr 3 0))],[(6,.row 2 ((Ud b a i).flatMap Grd.ds) true),(3,.box b.cs)]⟩)
  (λi=>i<=a.length/\(a.take i).any (λp=>Mw (H9 b p))=false) (λi=>a.length - i) 0 (by simp[AW,lk,St.le,vI,vC,Ud]) O1 ?_
 rintro i ⟨hi,l⟩;by_cases h:i<a.length
 ·have g:=jlN a i h;have f:=G a[i] (AZ h);have Y:i*3+3<=a.length*3:=O;have W:=jr7 b P a[i].letters f.2.2 f.2.1;have H:=juv b f.1;have X:=jmd 20 (Jg b a[i].letters) true H (by have:=jdt b a[i].letters;have:=f.2.1;omega);have m:=jsJ (b:=b) hi;have z:(LI (Jg b a[i].letters)).length=(Jg b a[i].letters).length:=Zv _;have Q:(Jg b a[i].letters).length<=2000:=by have:=jdt b a[i].letters;have:=f.2.1;omega
  refine rF2 h g ?_;refine⟨O,?_⟩;refine Ac W ?_;have K: ∀x:Int,(i64 x).flat=true:=λ_=>rfl;refine rF1 K ?_;refine .inr (.inl (Hn X (by simp[DB,U.all,C.id?]) (by simp[lk]) ?_));simp -implicitDefEqProofs[jJ,-qA,-qB,-qF,St.backW];rw[<-z];refine AV (λk:Nat=>⟨[(10,vI .i64 (k+1:Nat)),(9,vC (.sl 20 0 (H9 b a[i]).length)),(8,vC (.ptr 8 0)),(13,vI .i64 i),(12,vI .i64 a.length),(11,vC (.d (.slice a.length (a.flatMap Pat.ds)))),(6,vC (.sl 6 0 i)),(3,vC (.ptr 3 0))],
    [(20,.row 1 ((H9 b a[i]).map i64) true),(8,.box [.d (.int .i64 a[i].kind),.d (.str (bs a[i].letters)),.d (.int .i64 a[i].n)]),(6,.row 2 ((Ud b a i).flatMap Grd.ds) true),(3,.box b.cs)]⟩)
   (λk=>k+1<=(H9 b a[i]).length/\ ∀j (h:j+1<(H9 b a[i]).length),j<k->(H9 b a[i])[j+1]≠(H9 b a[i])[j]) (λk=>(H9 b a[i]).length - k) 0 (by simp[AW,lk,St.le,vI,vC,H9]) ⟨by unfold H9;have:=List.length_pos_iff.2 H;omega,λj _ h=>O⟩ ?_
  rintro k ⟨Z,q⟩;have S:(H9 b a[i]).length<=2000:=by unfold H9;omega
  have J:Zl b a[i]=⟨a[i].kind,H9 b a[i]⟩:=rfl;by_cases e:k+1<(H9 b a[i]).length
  ·have M:(H9 b a[i])[k+1]? =some (H9 b a[i])[k+1]:=AD e;have L:(H9 b a[i])[k]? =some ((H9 b a[i])[k]' O):=AD O;refine rF1 e ?_;refine AA (Ah [0,0,3,7,0,0,32,112,240,511]) [.any [] [] (Aq [[9],[10],[29,30],[31],[9],[10],[34],[33,35],[36]]),.one] O5 ?_;simp -implicitDefEqProofs[jJ,-qA,-qB,-qF,L,M,i64];refine⟨e,O,O,?_⟩;by_cases r:(H9 b a[i])[k+1]=(H9 b a[i])[k]' O
   ·have E:Mw (H9 b a[i])=true:=twice_iff.2 ⟨k,e,r⟩;have N:a.any (λp=>Mw (H9 b p))=true:=List.any_eq_true.2 ⟨_,AZ h,E⟩;simp -implicitDefEqProofs[jJ,-qA,-qB,-qF,r,guardsL,ZA,N]
   ·refine rF1 r ?_;refine⟨O,⟨O,λj v w=> ?_⟩,O⟩;rcases Nat.lt_succ_iff_lt_or_eq.1 w with h1|h1
    ·exact q j v h1
    ·subst h1;exact r
  ·have E:Mw (H9 b a[i])=false:=jAE λj v=>q j v O;refine rF1 e ?_;refine⟨O,O,O,i+1,⟨rfl,by rw[jxp h,List.flatMap_append];rfl⟩,⟨O,λx hx=> ?_⟩,O⟩;rw[Cr h,List.mem_append]at hx;rcases hx with hx|hx
   ·have:=List.any_eq_false.1 l x hx;simpa using this
   ·rw[List.mem_singleton.1 hx];exact E
 ·have t:i=a.length:=O;subst t;have m:=jsJ (b:=b) hi;have o:Ud b a a.length=a.map (Zl b):=by unfold Ud;rw[BM]
  rw[BM]at l;have T: ∀g∈Ud b a a.length,g.Short:=λg F=>by
   rw[o]at F;obtain⟨p,y,rfl⟩:=jzk.1 F;have:=jdt b p.letters;have:=(G p y).2.1;show(H9 b p).length<=_;unfold H9;rw[Zv];omega
  have I:=jyC (Ud b a a.length) O T;rw[m]at I;refine rF ?_;refine .inr (.inr (.inr (.inr (.inr ⟨rfl,6,a.length,2,_,_,(Ud b a a.length).flatMap Grd.ds,_,_,[],rfl,by simp[lk],rfl,rfl,I,?_⟩))));simp -implicitDefEqProofs[jJ,-qA,-qB,-qF,St.drop,guardsL,ZA,l,<-o]
theorem jws(x:Value)(b:Bnd)(i:Nat)(hi:i<=1000)(f:List D)(e:List (List A))(h:Gy prog x 182 ([.c (.int .i64 (i+1:Nat)),.agg b.ds]++f.map .c) e):
  Gy prog x 184 [.agg b.ds,.c (.ref [.fn 182 f]),.c (.ref [.int .i64 i])] e:=by
 refine Ps (T:=tb) Ak mixed func184 rfl O2 (Al rfl) rfl rfl ?_;intro a;unfold St.initY;refine rF ?_;refine⟨O,.inr (.inr (.inl ⟨x,e,a,_,by simp[lk],?_,h,?_⟩))⟩
 ·simp[St.argsW,U.toA,toD]
 ·simp only[St.reachU,aD,aG,U.all,aI,aH,aJ,Bnd.reach_cs,Oj];simp -implicitDefEqProofs[jJ,-qA,-qB,-qF,St.backY,St.rest,LQ]
theorem jmt(l:List Fct)(i:Nat)(h:i<l.length):((l.flatMap Fct.ds).map C.d|>.drop (i*5)).take 5=l[i].ds.map .d:=by
 have:((l.flatMap Fct.ds).drop (i*5)).take 5=l[i].ds:=Ic Fct.ds_len l i h;rw[<-aM,<-aN,this]
def Yj(b prem r a:D):Nat->D
 |0=>b
 |k+1=> .ref [.fn 182 [prem,r,Yj b prem r a k,a]]
def found1(E:Bnd->List (List A))(M:Nat->Bnd->List Bnd):Nat->Nat->Bnd->List (List A)
 |0,_,b=>E b
 |k+1,i,b=>(M i b).flatMap (found1 E M k (i+1))
theorem jvC{a b:Bnd}(h:Hf a=Hf b):a=b:=by
 have g:a.ds=b.ds:=by
  injection h with h _
  injection h
 have f:a.v=b.v:=(List.map_inj_right (λx y e=>by injection e)).1 g;cases a;cases b;simp only at f;subst f;rfl
noncomputable def jfK (F:Bnd->List (List A)) (y:List A):List (List A):=by
 classical
 exact if h: ∃c,Hf c=y then F h.choose else []
theorem jsw(F:Bnd->List (List A))(c:Bnd):jfK F (Hf c)=F c:=by
 have h: ∃d,Hf d=Hf c:=⟨c,rfl⟩
 unfold jfK;rw[dif_pos h,jvC h.choose_spec]
theorem jxA(F:Bnd->List (List A))(l:List Bnd):(l.map Hf).flatMap (jfK F)=l.flatMap F:=by
 rw[List.flatMap_map];exact congrArg (λg=>l.flatMap g) (funext λc=>jsw F c)
theorem jBz(x:Value)(prem:List Fct)(r:Rul)(j a:D)(E:Bnd->List (List A))(M:Nat->Bnd->List Bnd)(F:prem.length<=r.prem.length)(z:prem.length<=1000)
  (o: ∀i (h:i<prem.length) (b:Bnd),b.Ok->(∀x',Gy prog x' 183 [.agg (r.prem[i]' O).ds,.agg prem[i].ds,.agg b.ds,.c (.lit x')] ((M i b).map Hf))/\ ∀c∈M i b,c.Ok)
  (k i:Nat) (b:Bnd) (p:b.Ok) (hi:i+k+1=prem.length)
  (w: ∀c:Bnd,c.Ok->Gy prog x 182 [.c (.int .i64 (i+1:Nat)),.agg c.ds,.c (.ref [.slice prem.length (prem.flatMap Fct.ds)]),.c (.ref r.ds),.c (Yj j (.ref [.slice prem.length (prem.flatMap Fct.ds)]) (.ref r.ds) a k),.c a] (found1 E M k (i+1) c)):
  Gy prog x 182 [.c (.int .i64 i),.agg b.ds,.c (.ref [.slice prem.length (prem.flatMap Fct.ds)]),.c (.ref r.ds),.c (Yj j (.ref [.slice prem.length (prem.flatMap Fct.ds)]) (.ref r.ds) a (k+1)),.c a] (found1 E M (k+1) i b):=by
 have q:=o i O b p;have e:i<prem.length:=O;have f:i<r.prem.length:=O;have l:=jlN r.prem i f;have m:=jmt prem i e;refine Ps (T:=tb) Ak mixed func182 rfl O2 (Al rfl) rfl rfl ?_;intro g;unfold St.initY;simp only[Rul.ds,MB];refine rF1 e ?_;refine AA (Ah [0,1,0,7,15,0,0,96,224,0,0,2047]) [.any [] [] (Aq [[3],[17],[6],[18,19],[20],[2],[6],[22,23],[24],[7],[4,6]]),.one] O5 ?_;refine rF2 l m ?_;refine⟨f,O,e,O,.inr (.inr (.inr (.inl ⟨rfl,x,(M i b).map Hf,g,[.agg (r.prem[i]).ds,.agg prem[i].ds,.agg b.ds],184,[Yj j (.ref [.slice prem.length (prem.flatMap Fct.ds)]) (.ref r.ds) a (k+1),.ref [.int .i64 i]],jfK (found1 E M k (i+1)),?_,?_,λx'=>q.1 x',?_,?_⟩)))⟩
 ·rw[jxA];simp[lk,found1]
 ·simp only[St.reachU,aD,aG,U.all,aI,aH,aJ,M4,Bnd.reach_cs,Oj];simp -implicitDefEqProofs[jJ,-qA,-qB,-qF,U.toA,toD,Rul.ds,MB,DZ,C.id?];rfl
 ·intro y v;obtain⟨c,t,rfl⟩:=jzk.1 v;rw[jsw];exact jws x c i O _ _ (w c (q.2 c t))
 ·simp only[St.reachU,aD,aG,U.all,aI,aH,aJ,M4,Bnd.reach_cs,Oj];simp -implicitDefEqProofs[jJ,-qA,-qB,-qF,St.backY,St.rest,LQ,DZ,C.id?]
def UV(b:Bnd)(p:Pat):Fct:=⟨p.kind,Jg b p.letters,false,if p.kind=9 then limbs p.n.toNat else [],if p.kind=9 then limbs 1 else []⟩
def jcK(b:Bnd)(gl:List Grd)(p:Pat):List A:=[.agg (UV b p).ds,.c (Dd gl)]
def Wj(b:Bnd)(gl:List Grd)(l:List Pat)(i:Nat):List (List A):=(l.drop i).map (jcK b gl)
theorem jwN(b:Bnd)(gl:List Grd)(l:List Pat)(i:Nat)(h:i<l.length):Wj b gl l i=jcK b gl l[i]::Wj b gl l (i+1):=by
 unfold Wj;rw[BQ h];rfl
theorem jtx(b:Bnd)(gl:List Grd)(l:List Pat):Wj b gl l l.length=[]:=by simp[Wj]
def U7(r:Rul)(b:Bnd):List (List A):=if ZA b r.guards then Wj b (guardsL b r.guards) r.concl 0 else []
theorem jAI(x:Value)(prem:List Fct)(r:Rul)(E:D)(G:prem.length<=1000)(v:r.concl.length<=1000)(y:r.guards.length<=1000)(m: ∀p∈r.guards,p.Ok)(l: ∀p∈r.concl,p.Ok/\0<=p.n/\p.n<=1000)
  (b:Bnd) (t:b.Ok):
  Gy prog x 182 [.c (.int .i64 (prem.length:Nat)),.agg b.ds,.c (.ref [.slice prem.length (prem.flatMap Fct.ds)]),.c (.ref r.ds),.c E,.c (.ref [.lit x])] (U7 r b):=by
 have o:=(jwo b t r.guards m y).dat;simp only[MB,R.dat,RU.dat,RC.dat,List.map_cons,List.map_nil]at o;rw[Ba O1]at o;unfold U7;refine Ps (T:=tb) Ak mixed func182 rfl O2 (Al rfl) rfl rfl ?_;intro a;unfold St.initY;simp only[Rul.ds,MB];refine rF ?_;refine Ac o ?_;rw[Bnd.flatMap_reach b _ (λc v=>by simp only[v])];cases z:ZA b r.guards with
 |false=>
  simp -implicitDefEqProofs[jJ,-qA,-qB,-qF,LQ]
 |true=>
  refine rF ?_;generalize guardsL b r.guards=f;refine AV (λi:Nat=>⟨[(41,vI .i64 i),(40,vI .i64 r.concl.length),(39,vC (.d (.slice r.concl.length (r.concl.flatMap Pat.ds)))),(8,vC (.d (.slice f.length (f.flatMap Grd.ds)))),(7,vC (.ptr 7 0)),(5,vC (.d (.ref [.lit x]))),(YS,.tr x (Wj b f r.concl i++a))],[(7,.box b.cs)]⟩)
   (λi=>i<=r.concl.length) (λi=>r.concl.length - i) 0 (by simp[AW,lk,St.le,vI,vC,YS]) O ?_
  rintro i hi;by_cases h:i<r.concl.length
  ·have g:=jlN r.concl i h;have j:=l r.concl[i] (AZ h);have F:i*3+3<=r.concl.length*3:=O;have q:=(jr7 b t r.concl[i].letters j.1.2.2 j.1.2.1).dat;simp only[R.dat,RU.dat,RC.dat]at q;rw[Ba O1]at q;rw[jwN b f r.concl i h];refine rF2 h g ?_;refine⟨O,?_⟩;refine AA (Ah [0,1,0,0,8,28,63,0,255]) [.any [] [12] [⟨0,[11],[12],[12],[]⟩,⟨0,[45],[12],[12],[]⟩,⟨0,[7],[12],[12],[]⟩,⟨0,[11],[12],[12],[]⟩,⟨0,[48],[12],[12],[]⟩,⟨0,[47,49],[12],[12],[]⟩,⟨0,[46,50],[12],[12],[]⟩,⟨1,[],[],[],[]⟩],.one] O5 ?_;refine rF ?_;refine aF q ?_;refine⟨λk=> ?_,λk=> ?_⟩
   ·obtain⟨n,hn⟩: ∃n:Nat,r.concl[i].n=(n:Int):=⟨r.concl[i].n.toNat,O⟩
    have w:=jd8 n O;rw[<-hn]at w;refine aF w ?_;refine⟨jcK b f r.concl[i],Wj b f r.concl (i+1)++a,by simp[lk],?_,?_⟩
    ·simp -implicitDefEqProofs[jJ,-qA,-qB,-qF,St.argsW,U.toA,jcK,UV,k,hn,Dd,toD]
    ·simp -implicitDefEqProofs[jJ,-qA,-qB,-qF,St.backY,St.rest];refine⟨O,i+1,⟨rfl,rfl⟩,O,O⟩
   ·refine⟨jcK b f r.concl[i],Wj b f r.concl (i+1)++a,by simp[lk],?_,?_⟩
    ·simp -implicitDefEqProofs[jJ,-qA,-qB,-qF,St.argsW,U.toA,jcK,UV,k,Dd,toD];rfl
    ·simp -implicitDefEqProofs[jJ,-qA,-qB,-qF,St.backY,St.rest];refine⟨O,i+1,⟨rfl,rfl⟩,O,O⟩
  ·have e:i=r.concl.length:=O;subst e;rw[jtx];simp -implicitDefEqProofs[jJ,-qA,-qB,-qF,LQ]
theorem jrD(x:Value)(prem:List Fct)(r:Rul)(f:D)(M:Nat->Bnd->List Bnd)(t:prem.length<=r.prem.length)(l:prem.length<=1000)(o:r.concl.length<=1000)(q:r.guards.length<=1000)(e: ∀p∈r.guards,p.Ok)(a: ∀p∈r.concl,p.Ok/\0<=p.n/\p.n<=1000)
  (m: ∀i (h:i<prem.length) (b:Bnd),b.Ok->(∀x',Gy prog x' 183 [.agg (r.prem[i]' O).ds,.agg prem[i].ds,.agg b.ds,.c (.lit x')] ((M i b).map Hf))/\ ∀c∈M i b,c.Ok):
  ∀(k i:Nat) (b:Bnd),b.Ok->i+k=prem.length->
  Gy prog x 182 [.c (.int .i64 (i:Nat)),.agg b.ds,.c (.ref [.slice prem.length (prem.flatMap Fct.ds)]),.c (.ref r.ds),.c (Yj f (.ref [.slice prem.length (prem.flatMap Fct.ds)]) (.ref r.ds) (.ref [.lit x]) k),.c (.ref [.lit x])] (found1 (U7 r) M k i b)
 |0,i,b,g,hi=>by
  obtain rfl:i=prem.length:=O;exact jAI x prem r f l o q e a b g
 |k+1,i,b,g,hi=>jBz x prem r f _ (U7 r) M t l m k i b g O λc j=>jrD x prem r f M t l o q e a m k (i+1) c j O
theorem juV(x:Value)(prem:List Fct)(r:Rul)(M:Nat->Bnd->List Bnd)(t:prem.length<=r.prem.length)(E:prem.length<=3)(m:r.concl.length<=1000)(o:r.guards.length<=1000)(g: ∀p∈r.guards,p.Ok)(f: ∀p∈r.concl,p.Ok/\0<=p.n/\p.n<=1000)
  (l: ∀i (h:i<prem.length) (b:Bnd),b.Ok->(∀x',Gy prog x' 183 [.agg (r.prem[i]' O).ds,.agg prem[i].ds,.agg b.ds,.c (.lit x')] ((M i b).map Hf))/\ ∀c∈M i b,c.Ok) (a:Bnd) (k:a.v=aL 78 0):
  Gy prog x 103 [.agg r.ds,.c (.slice prem.length (prem.flatMap Fct.ds)),.c (.lit x)] (found1 (U7 r) M prem.length 0 a):=by
 have q:=λz=>jrD x prem r z M t O m o g f l prem.length 0 a (by unfold Bnd.Ok;rw[k];intro y w;have:=List.eq_of_mem_replicate w;omega) O;have e:aL 78 (C.d (D.int .i64 0))=a.cs:=by unfold Bnd.cs;rw[k];rfl
 generalize found1 (U7 r) M prem.length 0 a=F at*;clear l f g t m o;refine Ps (T:=tb) Ak mixed func103 rfl O2 (Al rfl) rfl rfl ?_;intro j;unfold St.initY;simp only[Rul.ds,MB]at*;refine rF1 e ?_;obtain hl0|hl0|hl0|hl0:prem.length=0\/prem.length=1\/prem.length=2\/prem.length=3:=O
 all_goals
  rw[hl0]at q ⊢;have q:=q (Yj (.ref [.fn 182 [.any,.any,.any,.any]]) (.ref [.slice prem.length (prem.flatMap Fct.ds)]) (.ref [.str (bs r.name),.slice r.prem.length (r.prem.flatMap Pat.ds),.slice r.concl.length (r.concl.flatMap Pat.ds),.slice r.guards.length (r.guards.flatMap Pat.ds),.int .i64 r.count,r.derive]) (.ref [.lit x]) (3 - prem.length));rw[hl0]at q;simp only[Yj,Nat.sub_zero,Nat.reduceSub]at q;refine .inr (.inr (.inl ⟨x,_,j,_,by simp[lk],?_,q,?_⟩))
  ·simp -implicitDefEqProofs[jJ,-qA,-qB,-qF,St.reachU,U.all,DZ,C.id?,St.argsW,U.toA,toD]
  ·simp -implicitDefEqProofs[jJ,-qA,-qB,-qF,St.backY,St.rest,LQ]
end Go.Va
namespace Go.Va
open _root_.List renaming mem_singleton → aD, pairwise_map → aG, mem_append → aH
open Go.Proofs
structure Fnd where
 fact:Fct
 grds:List Grd
def Fnd.ds(x:Fnd):List D:=[.int .i64 x.fact.kind,AT x.fact.args,.bool x.fact.neg,Ad x.fact.abs,Ad x.fact.den,Dd x.grds]
theorem Fnd.ds_len(x:Fnd):x.ds.length=6:=rfl
@[simp high]theorem jie(l:List Fnd):(l.flatMap Fnd.ds).length=l.length*6:=Qw Fnd.ds_len l
def QD(g:Fct)(l:List Fct):Bool:=l.any λa=>decide (C2 g a=0)
def PO(g:Fct):List Fct->Nat->Int
 |[],_=> -1
 |a::l,i=>if C2 g a=0 then i else PO g l (i+1)
theorem jrr(g:Fct): ∀(l:List Fct) (i:Nat),0<=PO g l i↔QD g l=true
 |[],i=>by simp[PO,QD]
 |a::l,i=>by
  unfold PO;by_cases h:C2 g a=0
  ·rw[if_pos h];simp[h,QD]
  ·rw[if_neg h,jrr g l (i+1)];simp[h,QD]
theorem jnG{g:Fct}{l:List Fct}{i:Nat}(h:i<l.length):PO g (l.drop i) i=if C2 g l[i]=0 then (i:Int) else PO g (l.drop (i+1)) (i+1):=by
 rw[BQ h];rfl
theorem jfV(g:Fct): ∀(l:List Fct) (i:Nat),PO g l i= -1/\(∀a∈l,C2 g a≠0)\/ ∃k,∃h:k<l.length,PO g l i=((i+k:Nat):Int)/\C2 g l[k]=0
 |[],i=> .inl ⟨rfl,O1⟩
 |a::l,i=>by
  unfold PO;by_cases h:C2 g a=0
  ·rw[if_pos h];exact .inr ⟨0,O1,O1,by simpa using h⟩
  ·rw[if_neg h];rcases jfV g l (i+1)with⟨e,f⟩|⟨k,j,e,f⟩
   ·exact .inl ⟨e,λb hb=>by rcases jzn.1 hb with rfl|hb;exact h;exact f b hb⟩
   ·exact .inr ⟨k+1,by simpa using j,by rw[e];omega,by simpa using f⟩
def KY:List Grd->List Grd->Int
 |[],[]=>0
 |[],_::_=> -1
 |_::_,[]=>1
 |a::x,b::y=>if cmpG a b≠0 then cmpG a b else KY x y
def KZ(a b:List Grd):Bool:=if a.length≠b.length then decide (a.length<b.length) else decide (KY a b<0)
def Ux(nl:List Fct)(l:List Fnd)(f:Fct)(g:List Grd):List Fnd:=
 if f.kind=0\/RQ f=true\/QD f nl=true then l else
 let i:=PO f (l.map Fnd.fact) 0
 if i<0 then l++[⟨f,g⟩] else
 match l[i.toNat]? with
 |none=>l
 |some x=>if KZ g x.grds then l.set i.toNat ⟨x.fact,g⟩ else l
def jah(nl:List Fct)(l:List Fnd)(f:Fct)(g:List Grd):List Fnd:=Ux nl l (normF f) g
structure FndOk (l:List Fnd):Prop where
 rt: ∀x∈l,x.fact.Rt
 sh: ∀x∈l,x.grds.length<=10/\ ∀g∈x.grds,g.Short
 nd:l.Pairwise λx y=>x.fact≠y.fact
theorem FndOk.nil:FndOk []:=⟨O1,O1,.nil⟩
theorem NW{f:Fct}(b:f.Mild)(h:(normF f).kind≠0):(normF f).Rt:=by
 unfold normF at h ⊢;split
 ·rename_i a;exact Ys ⟨a,b⟩
 ·rename_i a;rw[if_neg a]at h;exact absurd rfl h
theorem jqR{nl:List Fct}{l:List Fnd}{f:Fct}{g:List Grd}(a:FndOk l)(E:f.kind≠0->f.Rt)(r:g.length<=10/\ ∀x∈g,x.Short):FndOk (Ux nl l f g):=by
 unfold Ux;split
 ·exact a
 ·rename_i w;have i:f.Rt:=E λh=>w (.inl h);rcases jfV f (l.map Fnd.fact) 0 with⟨m,p⟩|⟨k,o,m,p⟩
  ·simp only[m];rw[if_pos O];refine⟨λx hx=> ?_,λx hx=> ?_,?_⟩
   ·rcases aH.1 hx with hx|hx
    ·exact a.rt x hx
    ·rw[aD]at hx;subst hx;exact i
   ·rcases aH.1 hx with hx|hx
    ·exact a.sh x hx
    ·rw[aD]at hx;subst hx;exact r
   ·rw[List.pairwise_append];refine⟨a.nd,List.pairwise_singleton _ _,λx hx y t=> ?_⟩;rw[aD]at t;subst t;intro e;have:=p x.fact (jzk.2 ⟨x,hx,rfl⟩);rw[e]at this;exact this ((WZ i i).2 rfl)
  ·simp only[m];rw[if_neg O];rw[List.length_map]at o;have v:((0+k:Nat):Int).toNat=k:=O;rw[v,AD o];simp only;split
   ·have b: ∀x∈l.set k ⟨l[k].fact,g⟩,x∈l\/x=⟨l[k].fact,g⟩:=λx hx=>List.mem_or_eq_of_mem_set hx;refine⟨λx hx=> ?_,λx hx=> ?_,?_⟩
    ·rcases b x hx with hx|rfl
     ·exact a.rt x hx
     ·exact a.rt l[k] (AZ o)
    ·rcases b x hx with hx|rfl
     ·exact a.sh x hx
     ·exact r
    ·have q:(l.map Fnd.fact).Pairwise (· ≠ ·):=by rw[aG];exact a.nd
     have z:(l.set k ⟨l[k].fact,g⟩).map Fnd.fact=l.map Fnd.fact:=by
      rw[List.map_set];apply List.ext_getElem O1;intro j F G;rw[List.getElem_set];split
      ·rename_i e;subst e;simp
      ·rfl
     rw[<-z,aG]at q;exact q
   ·exact a
theorem jBh(nl:List Fct)(l:List Fnd)(f:Fct)(g:List Grd):(Ux nl l f g).length<=l.length+1:=by
 unfold Ux;split
 ·omega
 ·simp only;split
  ·simp
  ·split
   ·omega
   ·split<;>simp
end Go.Va
