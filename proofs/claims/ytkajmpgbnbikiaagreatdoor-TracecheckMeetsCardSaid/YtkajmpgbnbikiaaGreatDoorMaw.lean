/- a part of the proof -/
import Derived.Test.YtkajmpgbnbikiaaGreatDoorMat
import Derived.Test.YtkajmpgbnbikiaaGreatDoorMav
import Derived.Test.YtkajmpgbnbikiaaGreatDoorMaq
set_option linter.all false
set_option maxHeartbeats 4000000
set_option maxRecDepth 10000
namespace Go.Va
open Go.Proofs
theorem L0(l:List Int){i:Nat}(h:i<l.length):l.getD i 0=l[i]:=by rw[Ax,Am h];rfl
theorem Uy(l:List Int){i:Nat}(h:l.length≤i):l.getD i 0=0:=by rw[Ax,By h];rfl
theorem Bnd.setP_ok{b:Bnd}(h:b.Ok)(k:Nat){x:Int}(hx:0≤x∧x<2000000):(b.setP k x).Ok:=by
 intro y hy;rcases List.mem_or_eq_of_mem_set hy with h1|h1
 ·exact h y h1
 ·rw[h1];exact hx
theorem Bnd.setS_ok{b:Bnd}(h:b.Ok)(k:Nat){x y:Int}(hx:0≤x∧x<2000000)(hy:0≤y∧y<2000000):(b.setS k x y).Ok:=by
 intro z hz;rcases List.mem_or_eq_of_mem_set hz with h1|h1
 ·rcases List.mem_or_eq_of_mem_set h1 with h2|h2
  ·exact h z h2
  ·rw[h2];exact hx
 ·rw[h1];exact hy
theorem Bnd.point_ok{b b':Bnd}(h:b.Ok){k:Nat}{p:Int}(hp: -1≤p∧p<1000000)(e:b.point k p=some b'):b'.Ok:=by
 unfold Bnd.point at e;split at e
 ·cases e
 ·cases e;exact Bnd.setP_ok h k (by omega)
theorem Bnd.segment_ok{b b':Bnd}(h:b.Ok){k:Nat}{s:Int×Int}(hs:DQ s)(e:b.segment k s=some b'):b'.Ok:=by
 obtain⟨h1,h2⟩:=hs
 unfold Bnd.segment at e;split at e
 ·cases e
 ·cases e;exact Bnd.setS_ok h k (by omega) (by omega)
theorem Tj: ∀(l:List UInt8) (pts:List Int) (b:Bnd),(∀p∈pts,-1≤p∧p<1000000)→b.Ok→ ∀c∈mp l pts b,c.Ok
 |[],_,b,_,hb=>by
  intro c hc;rw[mp,List.mem_singleton]at hc;subst hc;exact hb
 |x::r,pts,b,hp,hb=>by
  intro c hc;rw[mp,List.mem_flatMap]at hc;obtain⟨i,hi,hc⟩:=hc;rw[List.mem_range]at hi;split at hc
  ·cases hc
  ·rename_i b' e
   have hpi: -1≤pts.getD i 0∧pts.getD i 0<1000000:=by
    rw[L0 _ hi];exact hp _ (AD hi)
   exact Tj r (pts.eraseIdx i) b' (fun p h=>hp p (List.mem_of_mem_eraseIdx h)) (Bnd.point_ok hb hpi e) c hc
theorem Ni: ∀(n:Nat) (ls:List UInt8) (l:List (Int×Int)) (b:Bnd),ls.length≤n→(∀s∈l,DQ s)→b.Ok→ ∀c∈ms ls l b,c.Ok
 |n,[],l,b,_,hl,hb=>by
  intro c hc;cases l<;> · rw[ms,List.mem_singleton]at hc;subst hc;exact hb
 |n,x::r,[],b,_,hl,hb=>by
  intro c hc;simp[ms]at hc
 |0,x::r,s::l,b,hn,_,_=>by simp at hn
 |n+1,x::r,s::l,b,hn,hl,hb=>by
  intro c hc;have hs:DQ s:=hl s (by simp)
  have hl2: ∀t∈l,DQ t:=fun t ht=>hl t (by simp[ht])
  by_cases h97:97≤x.toNat
  ·rw[Mz h97]at hc
   split at hc
   ·cases hc
   ·rename_i b' e
    exact Ni n r l b' (by simp at hn;omega) hl2 (Bnd.segment_ok hb hs e) c hc
  ·cases r with
   |nil=>simp only[ms,if_neg h97]at hc;cases hc
   |cons d r=>
    have aux: ∀p q:Int,(-1≤p∧p<1000000)→(-1≤q∧q<1000000)→ ∀c∈DM x d r l b p q,c.Ok:=by
     intro p q hp hq c hc;unfold DM at hc;split at hc
     ·cases hc
     ·rename_i b1 e1
      split at hc
      ·cases hc
      ·rename_i b2 e2
       exact Ni n r l b2 (by simp at hn;omega) hl2 (Bnd.point_ok (Bnd.point_ok hb hp e1) hq e2) c hc
    rw[Ms h97,List.mem_append]at hc
    rcases hc with hc|hc
    ·exact aux _ _ hs.1 hs.2 c hc
    ·split at hc
     ·cases hc
     ·exact aux _ _ hs.2 hs.1 c hc
theorem NR{x y z:Nat}{b:Bnd}(hb:b.Ok){m p q:Int}(hm: -1≤m∧m<1000000)(hp: -1≤p∧p<1000000)(hq: -1≤q∧q<1000000): ∀c∈Dj x y z b m p q,c.Ok:=by
 intro c hc;unfold Dj at hc;split at hc
 ·cases hc
 ·rename_i b1 e1
  split at hc
  ·cases hc
  ·rename_i b2 e2
   split at hc
   ·cases hc
   ·rename_i b3 e3
    rw[List.mem_singleton]at hc
    subst hc;exact Bnd.point_ok (Bnd.point_ok (Bnd.point_ok hb hm e1) hp e2) hq e3
def FR(p:Pat)(f:Fct)(b:Bnd):List Bnd:=
 if p.kind=1∨p.kind=6∨p.kind=8 then (if f.kind=p.kind then mp p.letters f.args b else [])
 else if p.kind=5 then (if f.kind=5 then Dj ((p.letters.getD 0 0).toNat - 65) ((p.letters.getD 1 0).toNat - 65) ((p.letters.getD 2 0).toNat - 65) b (f.args.getD 0 0) (f.args.getD 1 0) (f.args.getD 2 0)++Dj ((p.letters.getD 0 0).toNat - 65) ((p.letters.getD 1 0).toNat - 65) ((p.letters.getD 2 0).toNat - 65) b (f.args.getD 0 0) (f.args.getD 2 0) (f.args.getD 1 0) else [])
 else (Co p.kind f).flatMap fun l=>ms p.letters l b
def Pat.Fit(p:Pat):Prop:=p.letters.length≤1000∧
 ((p.kind=1∨p.kind=6∨p.kind=8)∧(∀c∈p.letters,cap c)∨
 p.kind=5∧(∃c1 c2 c3,p.letters=[c1,c2,c3]∧cap c1∧cap c2∧cap c3)∨
 (p.kind=2∨p.kind=3∨p.kind=4)∧(∀u v,CE p.letters [u,v])∨
 p.kind=7∧ ∀u v w z,CE p.letters [u,v,w,z])
theorem Dd{a b:Int}(ha:0≤a∧a<40)(hb:0≤b∧b<40):DQ (Ar a b):=by
 unfold Ar DQ;have h1:=DH ha hb;have h2:=DB ha hb;simp only;omega
theorem jcn(p:Pat)(f:Fct)(hp:p.Fit)(hf:f.Rt)(b:Bnd): ∀x,BA Tryz.prog x 274 [.agg p.ds,.agg f.ds,.agg b.ds,.c (.lit x)] ((FR p f b).map AT):=by
 intro x;obtain⟨h1,h2,h3,h4⟩:=hf.parts;have h3': ∀a∈f.args,-1≤a∧a<1000000:=fun a ha=>by have:=h3 a ha;omega
 have hal:f.args.length≤8:=by
  rw[h2];unfold arity;split;omega;split;omega;split;omega;split<;>omega
 obtain⟨hll,hp⟩:=hp
 unfold FR;rcases hp with⟨hk,hc⟩|⟨hk,c1,c2,c3,hl,k1,k2,k3⟩|⟨hk,hm⟩|⟨hk,hm⟩
 ·rw[if_pos hk]
  exact ja7 x p f b hk hc hll h3' (by omega)
 ·rw[if_neg (by omega),if_pos hk]
  by_cases h5:f.kind=5
  ·rw[if_pos h5]
   obtain⟨m,u,v,ha⟩:=Hx (by rw[h2,h5];rfl:f.args.length=3)
   have q1:=h3' m (by simp[ha])
   have q2:=h3' u (by simp[ha])
   have q3:=h3' v (by simp[ha])
   unfold cap at k1 k2 k3;have:=X1 x p f b hk c1 c2 c3 hl (c1.toNat - 65) (c2.toNat - 65) (c3.toNat - 65) (by omega) (by omega) (by omega) (by omega) (by omega) (by omega) m u v ha q1 q2 q3 h5
   simpa [hl,ha]using this
  ·rw[if_neg h5]
   exact jen x p f b hk h5
 ·rw[if_neg (by omega),if_neg (by omega)]
  by_cases h21:p.kind=2∧f.kind=1
  ·obtain⟨a,e,c,ha⟩:=Hx (by rw[h2,h21.2];rfl:f.args.length=3)
   have q1:=h3 a (by simp[ha])
   have q2:=h3 e (by simp[ha])
   have q3:=h3 c (by simp[ha])
   have hr:=VG f h21.2 a e c ha;rw[←h21.1]at hr;have e1:Co p.kind f=[[Ar a e,Ar a c],[Ar a e,Ar e c],[Ar a c,Ar a e],[Ar a c,Ar e c],[Ar e c,Ar a e],[Ar e c,Ar a c]]:=by
    unfold Co;rw[if_pos h21];simp[ha]
   rw[e1]
   refine Ie x p f b (by omega) _ (by simp) hr ?_ hll
   intro l hl;simp only[jzn,C1,or_false]at hl;have t1:=Dd q1 q2;have t2:=Dd q1 q3;have t3:=Dd q2 q3;rcases hl with rfl|rfl|rfl|rfl|rfl|rfl<;>exact⟨hm _ _,by simp[t1,t2,t3],by simp⟩
  ·by_cases hke:f.kind=p.kind
   ·obtain⟨a,e,c,d,ha⟩:=E6 (by rw[h2,hke];rcases hk with h|h|h<;>rw[h]<;>rfl:f.args.length=4)
    have q1:=h3 a (by simp[ha])
    have q2:=h3 e (by simp[ha])
    have q3:=h3 c (by simp[ha])
    have q4:=h3 d (by simp[ha])
    have hpu:Bs f.args=[Ar a e,Ar c d]:=by rw[ha];rfl
    have e1:Co p.kind f=[[Ar a e,Ar c d],[Ar c d,Ar a e]]:=by
     unfold Co;rw[if_neg h21,if_neg (by simp[hke]),hpu]
    rw[e1]
    have t1:=Dd q1 q2;have t2:=Dd q3 q4;refine Ie x p f b (by omega) _ (by simp) (jg1 p.kind f hke (by omega) _ _ hpu (by omega)) ?_ hll
    intro l hl;simp only[jzn,C1,or_false]at hl;rcases hl with rfl|rfl<;>exact⟨hm _ _,by simp[t1,t2],by simp⟩
   ·have e1:Co p.kind f=[]:=by unfold Co;rw[if_neg h21,if_pos hke]
    rw[e1]
    exact Ie x p f b (by omega) [] (by simp) (T5 p.kind f h21 hke) (by simp) hll
 ·rw[if_neg (by omega),if_neg (by omega)]
  by_cases hke:f.kind=p.kind
  ·obtain⟨a,e,c,d,a',e',c',d',ha⟩:=Jz (by rw[h2,hke,hk];rfl:f.args.length=8)
   have q1:=h3 a (by simp[ha])
   have q2:=h3 e (by simp[ha])
   have q3:=h3 c (by simp[ha])
   have q4:=h3 d (by simp[ha])
   have q5:=h3 a' (by simp[ha])
   have q6:=h3 e' (by simp[ha])
   have q7:=h3 c' (by simp[ha])
   have q8:=h3 d' (by simp[ha])
   have hpu:Bs f.args=[Ar a e,Ar c d,Ar a' e',Ar c' d']:=by rw[ha];rfl
   have t1:=Dd q1 q2;have t2:=Dd q3 q4;have t3:=Dd q5 q6;have t4:=Dd q7 q8;have hr:=jdD f (by omega) _ _ _ _ hpu (by omega)
   rw[←hk]at hr
   have e1:Co p.kind f=[[Ar a e,Ar c d,Ar a' e',Ar c' d'],[Ar a e,Ar a' e',Ar c d,Ar c' d'],[Ar c' d',Ar c d,Ar a' e',Ar a e],[Ar c' d',Ar a' e',Ar c d,Ar a e],[Ar c d,Ar a e,Ar c' d',Ar a' e'],[Ar c d,Ar c' d',Ar a e,Ar a' e'],[Ar a' e',Ar a e,Ar c' d',Ar c d],[Ar a' e',Ar c' d',Ar a e,Ar c d]]:=by
    unfold Co;rw[if_neg (by omega),if_neg (by simp[hke]),hpu]
   rw[e1]
   refine Ie x p f b (by omega) _ (by simp) hr ?_ hll
   intro l hl;simp only[jzn,C1,or_false]at hl;rcases hl with rfl|rfl|rfl|rfl|rfl|rfl|rfl|rfl<;>exact⟨hm _ _ _ _,by simp[t1,t2,t3,t4],by simp⟩
  ·have e1:Co p.kind f=[]:=by unfold Co;rw[if_neg (by omega),if_pos hke]
   rw[e1]
   exact Ie x p f b (by omega) [] (by simp) (T5 p.kind f (by omega) hke) (by simp) hll
theorem Sr: ∀(l:List Int),(∀a∈l,0≤a∧a<40)→ ∀s∈Bs l,DQ s
 |[],_=>by simp[Bs]
 |[a],_=>by simp[Bs]
 |a::b::l,h=>by
  intro s hs;rw[Bs,jzn]at hs;rcases hs with rfl|hs
  ·exact Dd (h a (by simp)) (h b (by simp))
  ·exact Sr l (fun x hx=>h x (by simp[hx])) s hs
theorem jab(k:Int)(f:Fct)(hf:f.Rt): ∀l∈Co k f,∀s∈l,DQ s:=by
 obtain⟨h1,h2,h3,h4⟩:=hf.parts
 have hg: ∀i,0≤f.args.getD i 0∧f.args.getD i 0<40:=by
  intro i;rcases Nat.lt_or_ge i f.args.length with h|h
  ·rw[L0 _ h];exact h3 _ (AD h)
  ·rw[Uy _ h];omega
 have hp:=Sr f.args h3;intro l hl s hs;unfold Co at hl;split at hl
 ·have t1:=Dd (hg 0) (hg 1);have t2:=Dd (hg 0) (hg 2);have t3:=Dd (hg 1) (hg 2);simp only[jzn,C1,or_false]at hl;rcases hl with rfl|rfl|rfl|rfl|rfl|rfl<;>(simp only[jzn,C1,or_false]at hs;rcases hs with rfl|rfl<;>assumption)
 ·split at hl
  ·cases hl
  ·split at hl
   ·rename_i a b e
    rw[e]at hp
    simp only[jzn,C1,or_false]at hl hp;rcases hl with rfl|rfl<;>(simp only[jzn,C1,or_false]at hs;exact hp s (by rcases hs with h|h<;>simp[h]))
   ·rename_i u v w z e
    rw[e]at hp
    simp only[jzn,C1,or_false]at hl hp;rcases hl with rfl|rfl|rfl|rfl|rfl|rfl|rfl|rfl<;>(simp only[jzn,C1,or_false]at hs;exact hp s (by rcases hs with h|h|h|h<;>simp[h]))
   ·cases hl
theorem jhx(p:Pat)(f:Fct)(hf:f.Rt)(b:Bnd)(hb:b.Ok): ∀c∈FR p f b,c.Ok:=by
 obtain⟨h1,h2,h3,h4⟩:=hf.parts
 have hg: ∀i,-1≤f.args.getD i 0∧f.args.getD i 0<1000000:=by
  intro i;rcases Nat.lt_or_ge i f.args.length with h|h
  ·rw[L0 _ h];have:=h3 _ (AD h);omega
  ·rw[Uy _ h];omega
 intro c hc;unfold FR at hc;split at hc
 ·split at hc
  ·exact Tj _ _ b (fun a ha=>by have:=h3 a ha;omega) hb c hc
  ·cases hc
 ·split at hc
  ·split at hc
   ·rw[List.mem_append]at hc
    rcases hc with hc|hc
    ·exact NR hb (hg 0) (hg 1) (hg 2) c hc
    ·exact NR hb (hg 0) (hg 2) (hg 1) c hc
   ·cases hc
  ·rw[List.mem_flatMap]at hc
   obtain⟨l,hl,hc⟩:=hc
   exact Ni _ _ l b (Az _) (jab p.kind f hf l hl) hb c hc
end Go.Va
namespace Go.Va
open Go.Proofs
open Go.Shelf Go.RowKit Go.Lib Go.Sort
def Gy{α:Type}(cf:α→α→Int)(f:α):List α→List α
 |[]=>[f]
 |a::l=>if cf a f<0 then a::Gy cf f l else f::a::l
def Dp{α:Type}(cf:α→α→Int):List α→List α
 |[]=>[]
 |a::l=>Gy cf a (Dp cf l)
section
variable {α:Type} {cf:α→α→Int} {P:α→Prop}
theorem MX(f:α): ∀l,(Gy cf f l).Perm (f::l)
 |[]=>List.Perm.refl _
 |a::l=>by
  unfold Gy;split
  ·exact((MX f l).cons a).trans (List.Perm.swap f a l)
  ·exact List.Perm.refl _
theorem Fa: ∀l,(Dp cf l).Perm l
 |[]=>List.Perm.refl _
 |a::l=>(MX a _).trans ((Fa l).cons a)
theorem Lw(l:List α):(Dp cf l).length=l.length:=(Fa l).length_eq
theorem UQ(h:IsCmp P cf){f:α}(hf:P f): ∀{l:List α},(∀x∈l,P x)→l.Pairwise (fun a b=>cf a b≤0)→(Gy cf f l).Pairwise (fun a b=>cf a b≤0)
 |[],_,_=>by simp[Gy]
 |a::l,hl,hp=>by
  rw[List.pairwise_cons]at hp
  have ha:=hl a (by simp)
  unfold Gy;split
  ·rename_i hlt
   rw[List.pairwise_cons]
   refine⟨fun b hb=> ?_,UQ h hf (fun x hx=>hl x (by simp[hx])) hp.2⟩
   rcases jzn.1 ((MX f l).mem_iff.1 hb)with rfl|hb
   ·omega
   ·exact hp.1 b hb
  ·rename_i hge
   have hfa:cf f a≤0:=by have:=h.anti a f ha hf;omega
   rw[List.pairwise_cons,List.pairwise_cons]
   refine⟨fun b hb=> ?_,hp.1,hp.2⟩
   rcases jzn.1 hb with rfl|hb
   ·exact hfa
   ·exact(h.tr f a b hf ha (hl b (by simp[hb])) hfa (hp.1 b hb)).1
theorem UR(h:IsCmp P cf): ∀{l:List α},(∀x∈l,P x)→(Dp cf l).Pairwise (fun a b=>cf a b≤0)
 |[],_=>by simp[Dp]
 |a::l,hl=>UQ h (hl a (by simp)) (fun x hx=>hl x (by simp[(Fa l).mem_iff.1 hx])) (UR h fun x hx=>hl x (by simp[hx]))
theorem jeQ(h:IsCmp P cf)(h0: ∀x y,P x→P y→cf x y=0→x=y){l m:List α}(hl: ∀x∈l,P x)(hp:m.Perm l)(hs:m.Pairwise (fun a b=>cf a b≤0)):m=Dp cf l:=by
 refine List.Perm.eq_of_pairwise (le:=fun a b=>cf a b≤0) (fun a b ha hb h1 h2=> ?_) hs (UR h hl) (hp.trans (Fa l).symm)
 have ra:=hl a (hp.mem_iff.1 ha);have rb:=hl b ((Fa l).mem_iff.1 hb);have:=h.anti a b ra rb;exact h0 a b ra rb (by omega)
end
theorem Ze{α:Type}[Inhabited α]{enc:α→List Value}{k:Nat}(hk: ∀x,(enc x).length=k)(d:Array α):(flatK enc k d).toList=d.toList.flatMap enc:=by
 have hfl: ∀l:List α,(l.flatMap enc).length=l.length*k:=fun l=>by
  induction l with
  |nil=>simp
  |cons a l ih=>rw[List.flatMap_cons,List.length_append,hk,ih,List.length_cons,Nat.add_mul,Nat.one_mul,Nat.add_comm]
 have hfd: ∀(l:List α) (i:Nat),(l.flatMap enc).drop (i*k)=(l.drop i).flatMap enc:=fun l=>by
  induction l with
  |nil=>intro i;simp
  |cons a l ih=>
   intro i;cases i with
   |zero=>simp
   |succ i=>rw[List.flatMap_cons,List.drop_succ_cons,List.drop_append,Cg (by rw[hk,Nat.add_mul];omega),hk,List.nil_append,Nat.add_mul,Nat.one_mul,Nat.add_sub_cancel,ih]
 apply List.ext_getElem?
 intro t;by_cases ht:t<d.size*k
 ·have k0:0<k:=by
   rcases Nat.eq_zero_or_pos k with h|h
   ·subst h;omega
   ·exact h
  have hq:t/k<d.size:=(Nat.div_lt_iff_lt_mul k0).2 ht;have hm:t%k<k:=Nat.mod_lt _ k0;have e1:(d.toList.flatMap enc)[t]? =((d.toList.flatMap enc).drop (t/k*k))[t%k]? :=by
   rw[List.getElem?_drop]
   congr 1
   rw[Nat.mul_comm]
   exact(Nat.div_add_mod t k).symm
  have hq':t/k<d.toList.length:=by simpa using hq
  rw[e1,hfd,AX hq',List.flatMap_cons,List.getElem?_append_left (by rw[hk];exact hm)]
  have e2:=get_flatK enc k d t ht;rw[Array.getElem?_toList];have hsz:t<(flatK enc k d).size:=by rw[size_flatK];exact ht
  rw[getElem!_pos _ t hsz,getElem!_pos d (t/k) hq,getElem!_pos _ (t%k) (by rw[hk];exact hm)]at e2
  rw[Array.getElem?_eq_getElem hsz,e2,Am (by rw[hk];exact hm)]
  simp
 ·rw[By (by simp[size_flatK];omega),By (by rw[hfl];simp;omega)]
def EV{α:Type}(ds:α→List D)(P:α→Prop)(w:World)(Z:Addr→Prop):Type:={ p:α×List Value//RepL (RepD w Z) (ds p.1) p.2∧P p.1 }
theorem SY{α:Type}{ds:α→List D}{P:α→Prop}{w:World}{Z:Addr→Prop}: ∀l:List (EV ds P w Z),RepL (RepD w Z) ((l.map fun x=>x.1.1).flatMap ds) (l.flatMap fun x=>x.1.2)
 |[]=>⟨rfl,fun j x v hx=>by simp at hx⟩
 |a::l=>by
  simp only[List.map_cons,List.flatMap_cons];exact RepL.append a.2.1 (SY l)
theorem PN{k:Nat}(f:Nat→Value)(b j:Nat)(hj:j<k):((List.range k).map fun r=>f (b+r))[j]? =some (f (b+j)):=by
 simp[hj]
section
variable {α:Type} {ds:α→List D} {K:Nat} {P:α→Prop} {cf:α→α→Int}
theorem Rf(hK:0<K)(hds: ∀x,(ds x).length=K)(hC:IsCmp P cf)(h00: ∀x,P x→cf x x=0)(h0: ∀x y,P x→P y→cf x y=0→x=y){ren:Ren}(L:SlLaysF0.n6 Tryz.prog ren){fs:Nat}(hfs:ren.f 6=fs)(hok:EU Tryz.prog fs)
  (aE: ∀w,(isAgg (ren.t 24)).run Tryz.prog w= .ok true w) (zE: ∀w,(Go.sizeOf (ren.t 24)).run Tryz.prog w= .ok K w) (g:FuncId) (eg: ∀args w,(callFunc g args).run Tryz.prog w= .ok (.enter g args) w)
  (hg: ∀x y,P x→P y→CallsF Tryz.prog g [.agg (ds x),.agg (ds y)] (.u (.c (.d (.int .i64 (cf x y))))))
  (i:Nat) (l:List α) (app:Bool) (hl:l.length≤1099511627776) (hr: ∀f∈l,P f):
  DZ Tryz.prog fs [.c (.sl i 0 l.length),.c (.d (.fn g []))] [(i,.row K (l.flatMap ds) app)] [(i,.row K ((Dp cf l).flatMap ds) app)] (.tup []):=by
 refine⟨hok,rfl,fun w Z ρ vals hZ hh hcz hρ hv=> ?_⟩
 obtain⟨v,v2,rfl⟩: ∃v v2,vals=[v,v2]:=by
  have:=hv.1
  match vals,this with
  |[v,v2],_=>exact⟨v,v2,rfl⟩
 have hv2:v2= .func (.func g) #[] #[]:=by
  have h2:RepD w (Aj ρ Z) (.fn g []) v2:=hv.2 1 _ _ rfl rfl;cases h2 with
  |fn f caps vs hlen h3=>
   have:vs=[]:=jzv.1 hlen.symm
   subst this;rfl
 subst hv2;subst hfs;rcases Nat.eq_zero_or_pos l.length with hlz|hpos
 ·
  have hl0:l=[]:=jzv.1 hlz
  subst hl0;obtain⟨p,cap,rfl⟩: ∃p cap,v= .slice p 0 cap:=by
   obtain⟨o,_,_,h3⟩:=hv.2 0 _ v rfl rfl
   rcases h3 with⟨_,h4,_⟩|⟨_,a,c,h4,_⟩
   ·exact⟨none,0,h4⟩
   ·exact⟨some a,c,h4⟩
  have hcon:=AnyF.slices_SortFunc_none L p cap (.func (.func g) #[] #[]) w;refine Calls.mono hcon fun e w' ⟨he,hw⟩=> ?_
  subst hw;exact⟨_,he,⟨rfl,Az _,rfl,rfl,Az _,fun _ _ _ h=>h,fun _ _=>rfl,fun _ _ _=>rfl⟩,hh,[],rfl,by simp[RepL],fun j x v hx=>by simp at hx⟩
 obtain⟨o,c,ho,hnil,hroom,rfl⟩:=OM (w:=w) (Z:=Z) (hv.2 0 _ _ rfl rfl) hpos
 obtain⟨o',ho',hb⟩:=hh.rep i (.row K (l.flatMap ds) app) (by simp[lk])
 rw[ho]at ho'
 cases ho'
 have hb':=hb;obtain⟨hsz,happ,hlen,⟨hn1,hn2⟩,hc⟩:=hb';have hgone:o.gone=false:=by rw[hn2];exact hnil
 rw[DG hds]at hlen
 let vs:Nat→Value:=fun j=>(w.cell? (o.at j)).getD undef
 have hvs: ∀(j:Nat) (x:D),(l.flatMap ds)[j]? =some x→w.cell? (o.at j)=some (vs j)∧RepD w (Aj ρ Z) x (vs j):=fun j x hx=>by
  obtain⟨v,h1,h2⟩:=hc j x hx
  have:vs j=v:=by simp only[vs,h1,Option.getD_some]
  rw[this]
  exact⟨h1,h2⟩
 have hrow: ∀(k:Nat) (hk:k<l.length),RepL (RepD w (Aj ρ Z)) (ds l[k]) ((List.range K).map fun r=>vs (k*K+r)):=fun k hk=>by
  refine⟨by simp[hds],fun j x v hx hv=> ?_⟩
  have hj:j<K:=by rw[←hds l[k]];exact(jzg.1 hx).1
  have he:(l.flatMap ds)[k*K+j]? =some x:=by
   have:=EO hds l k hk
   rw[←this,List.getElem?_take,if_pos hj,List.getElem?_drop]at hx
   exact hx
  rw[PN vs (k*K) j hj]at hv
  rw[←AK hv]
  exact(hvs (k*K+j) x he).2
 let el:Fin l.length→EV ds P w (Aj ρ Z):=fun k=>⟨(l[k],(List.range K).map fun r=>vs (k*K+r)),hrow k k.2,hr _ (AD k.2)⟩
 haveI:Inhabited (EV ds P w (Aj ρ Z)):=⟨el ⟨0,hpos⟩⟩
 let enc:EV ds P w (Aj ρ Z)→List Value:=fun x=>x.1.2
 have hk: ∀x,(enc x).length=K:=fun x=>x.2.1.1.symm.trans (hds _)
 have h1: ∀x,∀v∈enc x,v.oneCell'=true:=fun x v hv=>by
  obtain⟨j,hj⟩:=List.getElem?_of_mem hv
  have hlt:j<(ds x.1.1).length:=by
   have h1:j<x.1.2.length:=(jzg.1 hj).1;have h2:(ds x.1.1).length=x.1.2.length:=x.2.1.1;omega
  exact(x.2.1.2 j _ v (Am hlt) hj).one
 let d:Array (EV ds P w (Aj ρ Z)):=Array.ofFn el
 have hdsz:d.size=l.length:=by simp[d]
 have hdg: ∀(t:Nat) (ht:t<l.length),d[t]! =el ⟨t,ht⟩:=fun t ht=>by
  rw[getElem!_pos d t (by rw[hdsz];exact ht)]
  simp[d]
 have hH:HoldsK enc K w o.g o.o d:=fun t ht=>by
  rw[size_flatK,hdsz]at ht
  have hq:t/K<l.length:=(Nat.div_lt_iff_lt_mul hK).2 ht;have hin:t<o.room*o.sz:=by rw[hsz];omega
  refine⟨?_,(hh.owns.cells i o ho hgone t hin).2⟩
  rw[get_flatK enc K d t (by rw[hdsz];exact ht),hdg _ hq]
  have hx:=Am (l:=l.flatMap ds) (i:=t) (by rw[DG hds];exact ht)
  have h2:=(hvs t _ hx).1
  show w.cell? (o.at t)=some (id _)
  rw[h2]
  have hm:t%K<K:=Nat.mod_lt _ hK
  show some (vs t)=some (((List.range K).map fun r=>vs (t/K*K+r))[t%K]!)
  have h3:=PN vs (t/K*K) (t%K) hm;rw[List.getElem!_of_getElem? h3,show t/K*K+t%K=t by rw[Nat.mul_comm];exact Nat.div_add_mod t K]
 let cg:EV ds P w (Aj ρ Z)→EV ds P w (Aj ρ Z)→Int:=fun x y=>cf x.1.1 y.1.1
 have hO:SWO (ltOf cg):=
  {irrefl:=fun x=>by
    have:=h00 x.1.1 x.2.2
    simp[ltOf,cg,this]
   trans:=fun x y z h1 h2=>by
    simp only[ltOf,cg,decide_eq_true_eq]at*;have:=hC.tr x.1.1 y.1.1 z.1.1 x.2.2 y.2.2 z.2.2 (by omega) (by omega)
    omega
   ntrans:=fun x y z h1 h2=>by
    simp only[ltOf,cg,decide_eq_false_iff_not]at*;have a1:=hC.anti x.1.1 y.1.1 x.2.2 y.2.2;have a2:=hC.anti y.1.1 z.1.1 y.2.2 z.2.2;have a3:=hC.anti x.1.1 z.1.1 x.2.2 z.2.2;have:=hC.tr z.1.1 y.1.1 x.1.1 z.2.2 y.2.2 x.2.2 (by omega) (by omega)
    omega }
 have hblk:o.g<w.heap.size:=by
  have hx:=Am (l:=l.flatMap ds) (i:=0) (by rw[DG hds];exact Nat.mul_pos hpos hK)
  exact World.block_lt_of_cell? w _ (hvs 0 _ hx).1
 have hcmp:CmpLays Tryz.prog g #[] enc K cg o.g o.o d.size w:=fun m os dk hdk x y=>by
  have hkeep:Keep w (sortWorldK enc K w o.g o.o m dk os) (Aj ρ Z) (fun _=>False):=fun ad v hn hv=>by
   refine⟨?_,fun h=>h⟩
   have hlt:=World.block_lt_of_cell? w _ hv;unfold sortWorldK;have hsz2:ad.block<(putRowK enc K (Sort.ahead w m) o.g o.o dk).heap.size:=by
    rw[size_putRowK];exact hlt
   rw[cell?_grow _ _ _ hsz2]
   unfold putRowK;rw[cell?_putRow_other id (Sort.ahead w m) o.g o.o _ ad ?_]
   ·exact hv
   ·rw[size_flatK,hdk,hdsz]
    by_cases e1:ad.block=o.g
    ·by_cases e2:ad.off<o.o
     ·exact .inr (.inl e2)
     ·by_cases e3:o.o+l.length*K≤ad.off
      ·exact .inr (.inr e3)
      ·exact absurd (.inr ⟨i,o,ho,hgone,e1,by omega,by rw[hsz];omega⟩) hn
    ·exact .inl e1
  have hc1:=(hg x.1.1 y.1.1 x.2.2 y.2.2).2 (sortWorldK enc K w o.g o.o m dk os) (fun _=>False) [.agg (enc x).toArray,.agg (enc y).toArray] (fun _ h=>h.elim)
   ⟨rfl,fun j a v ha hv=>by
    match j,ha,hv with
    |0,ha,hv=>
     cases ha;cases hv
     exact⟨enc x,rfl,x.2.1.mono fun q u hu=>hu.keep hkeep⟩
    |1,ha,hv=>
     cases ha;cases hv
     exact⟨enc y,rfl,y.2.1.mono fun q u hu=>hu.keep hkeep⟩⟩
  refine Calls.mono hc1 fun e w' ⟨v,he,hx,hres⟩=> ?_
  obtain⟨_,o2,_,h3⟩:=hres
  have h4:RepD w' (Aj (BE 0 [] o2) fun _=>False) (.int .i64 (cf x.1.1 y.1.1)) v:=(h3 0).1
  cases h4;obtain⟨q,os',hw⟩:=hx.asGrow
  exact⟨he,q,os',hw⟩
 have hcon:=AnyQ.slices_SortFunc L K aE zE enc hk h1 cg hO g #[] o.g o.o c d w eg hcmp hH hblk (by rw[hdsz];omega)
 rw[hdsz]at hcon
 refine Calls.mono hcon fun e w' ⟨he,d',n,os,hp,hs,hw⟩=> ?_
 obtain⟨hp1,hp2,hp3⟩:=hp
 have hds':d'.size=l.length:=hp1.trans hdsz
 have hperm:d'.toList.Perm d.toList:=by
  have e1:d'.extract 0 l.length=d':=by rw[←hds'];simp
  have e2:d.extract 0 l.length=d:=by rw[←hdsz];simp
  rwa [e1,e2]at hp3
 have hdl:d.toList.map (fun x=>x.1.1)=l:=by
  apply List.ext_getElem?
  intro t;by_cases ht:t<l.length
  ·have hlt:t<d.size:=by rw[hdsz];exact ht
   have h3:=hdg t ht;rw[getElem!_pos d t hlt]at h3;rw[Bi,Am ht,Array.getElem?_toList,Array.getElem?_eq_getElem hlt,Option.map_some,h3];rfl
  ·rw[By (by simp[hdsz];omega),By (by omega)]
 have hsort:d'.toList.map (fun x=>x.1.1)=Dp cf l:=by
  refine jeQ hC h0 hr (by rw[←hdl];exact hperm.map _) ?_
  rw[List.pairwise_map,List.pairwise_iff_getElem]
  intro a b ha hb hab;have ha':a<d'.size:=by simpa using ha
  have hb':b<d'.size:=by simpa using hb
  have h2:=hs a b (Nat.zero_le _) hab (by omega)
  rw[getElem!_pos d' a ha',getElem!_pos d' b hb']at h2
  simp only[ltOf,cg,decide_eq_false_iff_not]at h2;simp only[Array.getElem_toList];have:=hC.anti d'[a].1.1 d'[b].1.1 d'[a].2.2 d'[b].2.2;omega
 have hfl:=Ze hk d';have hw2:w'=Go.Sort.grow ((w.drewN n).setCells o.g o.o ((d'.toList.flatMap enc).map id)) os:=by
  rw[hw]
  unfold sortWorldK putRowK;have e1:flatK enc K d'=(d'.toList.flatMap enc).toArray:=by rw[←hfl]
  rw[e1,putRow_eq_setCells id w o.g o.o (flatK enc K d) _ n hH (by rw[←hfl,Array.length_toList,size_flatK,size_flatK,hdsz,hds'])]
 rw[List.map_id]at hw2
 have hrl:=SY d'.toList;rw[hsort]at hrl;have ht:=MB hZ hh hcz ho hgone hb (vs:=d'.toList.flatMap enc) (cs':=(Dp cf l).flatMap ds) (by
  rw[←hfl,Array.length_toList,size_flatK,hds',DG hds]) hrl n os
 have ht2:=ht.2;simp only[rm,if_true]at ht2;subst hw2;exact⟨_,he,ht.1,ht2,[],rfl,by simp[RepL],fun j x v hx=>by simp at hx⟩
end
end Go.Va
namespace Go.Va
open Int (natCast_add natCast_mul natCast_emod natCast_ediv natCast_pow)
open Go.Proofs Go.Shelf Go.RowKit Go.Lib Go.Sort
structure Grd where
 kind:Int
 args:List Int
 deriving DecidableEq
def Grd.ds(g:Grd):List D:=[.int .i64 g.kind,intsD g.args]
theorem Grd.ds_len(g:Grd):g.ds.length=2:=rfl
def Grd.fct(g:Grd):Fct:=⟨g.kind,g.args,false,[],[]⟩
def cmpG(a b:Grd):Int:=cmpK a.fct b.fct
def Grd.Short(g:Grd):Prop:=g.args.length≤1000000
theorem je1:IsCmp Grd.Short cmpG:=⟨fun x y _ _=>isCmp_K.rng _ _ trivial trivial,fun x y _ _=>isCmp_K.anti _ _ trivial trivial,fun x y z _ _ _=>isCmp_K.tr _ _ _ trivial trivial trivial⟩
theorem cmpG_zero{a b:Grd}:cmpG a b=0↔a=b:=by
 unfold cmpG;rw[cmpK_zero];cases a;cases b;simp[Grd.fct]
theorem Mt(a b:Grd)(ha:a.Short)(hb:b.Short):CallsF Tryz.prog 272 [.agg a.ds,.agg b.ds] (.u (.c (.d (.int .i64 (cmpG a b))))):=by
 have k1:=FG a.kind b.kind;have k2:=Rh a.args b.args (by unfold Grd.Short at ha;omega) (by unfold Grd.Short at hb;omega)
 have k3:CallsF Tryz.prog 127 [.c (.slice 2 [.int .i64 (cmpZ a.kind b.kind),.int .i64 (A6 a.args b.args)])] _:=Kl [cmpZ a.kind b.kind,A6 a.args b.args] (by simp)
 have e:cmpG a b=CG [cmpZ a.kind b.kind,A6 a.args b.args]:=rfl
 rw[←e]at k3
 generalize cmpG a b=r at*;refine Ak (T:=tb) Ah mixed Tryz.func272 rfl (by decide) (Af rfl) rfl ?_;unfold St.init
 simp only[Grd.ds];simp -implicitDefEqProofs[jJ,-natCast_add,-natCast_mul];refine At (Ad [0,1,0,4,15,0,32,0,128,511,1023,2047,4095]) [.any [] [] (Ap [[2],[5],[3],[7],[6,8],[2],[10],[3],[12]]),.one,.one,.one,.one] (by rfl) ?_
 simp -implicitDefEqProofs[jJ,-natCast_add,-natCast_mul]
 (first|refine Ab k1 ?_|refine Aa k1 ?_)
 simp -implicitDefEqProofs[jJ,-natCast_add,-natCast_mul]
 (first|refine Ab k2 ?_|refine Aa k2 ?_)
 simp -implicitDefEqProofs[jJ,-natCast_add,-natCast_mul]
 (first|refine Ab k3 ?_|refine Aa k3 ?_)
 simp -implicitDefEqProofs[jJ,-natCast_add,-natCast_mul]
theorem jft(a b:Grd)(ha:a.Short)(hb:b.Short):CallsF Tryz.prog 350 [.agg a.ds,.agg b.ds] (.u (.c (.d (.bool (decide (cmpG a b=0)))))):=by
 have k:=Mt a b ha hb;simp only[Grd.ds]at k;refine Ak (T:=tb) Ah mixed Tryz.func350 rfl (by decide) (Af rfl) rfl ?_;unfold St.init
 simp only[Grd.ds];simp -implicitDefEqProofs[jJ,-natCast_add,-natCast_mul]
 (first|refine Ab k ?_|refine Aa k ?_)
 simp -implicitDefEqProofs[jJ,-natCast_add,-natCast_mul]
def Gu(l:List Grd):List Grd:=Dp cmpG l
theorem jkq(i:Nat)(l:List Grd)(app:Bool)(hl:l.length≤1099511627776)(hr: ∀g∈l,g.Short):
  DZ Tryz.prog 348 [.c (.sl i 0 l.length),.c (.d (.fn 272 []))] [(i,.row 2 (l.flatMap Grd.ds) app)] [(i,.row 2 ((Gu l).flatMap Grd.ds) app)] (.tup []):=
 Rf (by omega) Grd.ds_len je1 (fun x _=>cmpG_zero.2 rfl) (fun x y _ _ h=>cmpG_zero.1 h) Tryz.laysSG rfl ⟨_,Tryz.func348,rfl,by decide⟩ Tryz.isAgg55 Tryz.sizeOf55 272
  (enters_of Tryz.func272 (by kernel_rfl) rfl) (fun x y hx hy=>Mt x y hx hy) i l app hl hr
end Go.Va
