/- a part of the proof -/
import Derived.Test.YtplacedebenpaaaGreatDoorEbf
set_option linter.all false
set_option maxHeartbeats 4000000
set_option maxRecDepth 10000
namespace Go.Va
open _root_.List renaming range → aD, foldl_append → aG, take → aH, mem_of_mem_take → aJ, length_drop → aM, range_succ → aN, map_append → aO, length_nil → aP, mem_range → aR
open _root_.Option renaming getD_some → aI, getD_none → aL
open Int renaming natCast_add → qA, natCast_mul → qB, natCast_emod → qC, natCast_ediv → qD, natCast_pow → qE
open Go.Proofs Go.Proofs.Tryz
def jjZ:List (List Nat):=(Ah [0,0,2,7,15,31,31,127,255,31,1023,2047,4095])
@[simp]def jiH:List Seg:=[.any [] [] (Aq [[5],[0],[7]]),.one,.one,.any [] [] (Aq [[0,10],[5,10],[11,12,10],[13,10],[3,10]]),.one,.one,.one]
def jqC:List (List Nat):=(Ah [0,0,2,7,15,31,31,127,255,31,1023,2047,4095])
@[simp]def joi:List Seg:=[.any [] [] (Aq [[5],[0],[22]]),.one,.one,.any [] [] (Aq [[0,25],[5,25],[26,27,25],[28,25],[3,25]]),.one,.one,.one]
def jr3:List (List Nat):=(Ah [0,0,0,6,15,0,32,127,0,0,768,2047,4095])
@[simp]def jpq:List Seg:=[.any [] [35,39,41,42] [⟨1,[],[41],[39,41,42],[]⟩,⟨0,[0],[35,41],[35,39,41,42],[]⟩,⟨0,[5],[35,41],[35,39,41,42],[]⟩,⟨0,[36,37],[35,41],[35,39,41,42],[]⟩,⟨3,[35,38],[41],[41,42],[35]⟩,⟨0,[3],[35,39],[35,39,41,42],[]⟩,⟨1,[40],[35,39],[35,39,42],[]⟩,⟨3,[39,41],[],[],[39]⟩,⟨0,[0],[35,39,41,42],[35,39,41,42],[]⟩,⟨0,[5],[35,39,41,42],[35,39,41,42],[]⟩,⟨0,[43,44],[35,39,41,42],[35,39,41,42],[]⟩],.one,.one]
variable{n:Nat}{l:List Fct}{S:Nat->List Fct}
@[simp]theorem jCD(h:List (Nat×Blk))(l:List Fct)(k:Int):sliceV h (.d (C1 l)) none (some k) 5=if 0<=k/\k<=l.length then some (.d (C1 (l.take k.toNat))) else none:=by
 unfold C1 sliceV Gb;simp only[jdG,if_true,aL,aI,Int.toNat_zero,Nat.sub_zero];by_cases a:0<=k/\k<=l.length
 ·rw[if_pos a,if_pos O];simp only[cut,Nat.zero_mul,List.drop_zero,jd2 Fct.ds_len,A8];rw[Bs O]
 ·rw[if_neg a,if_neg O]
@[simp]theorem jCl(h:List (Nat×Blk))(l:List Fct)(k:Int):sliceV h (.d (C1 l)) (some k) none 5=if 0<=k/\k<=l.length then some (.d (C1 (l.drop k.toNat))) else none:=by
 unfold C1 sliceV Gb;simp only[jdG,if_true,aL,aI];by_cases a:0<=k/\k<=l.length
 ·rw[if_pos a,if_pos O];simp only[cut,jdj Fct.ds_len,aM];rw[Ba (by rw[jdG,aM];omega)];have e:(l.length:Int).toNat - k.toNat=l.length - k.toNat:=O1;rw[e]
 ·rw[if_neg a,if_neg O]
@[simp]theorem src_fcts(j:TI)(l:List Fct)(b:St)(a:j.size=5):b.src j (.d (C1 l))=some (l.length,l.flatMap Fct.ds):=by
 unfold C1 St.src;simp[a]
theorem jsB{m:List Fct}{cs:List D}(b:n=m.length)(a:cs=m.flatMap Fct.ds):D.slice n (aH (n*5) cs)=C1 m:=by
 subst b a;rw[jyb];rfl
theorem je5(f:Fct): ∀(p:Nat) (l:List Fct),p<=l.length->(∀j (g:j<l.length),j<p->C2 l[j] f<0)->putF l f=l.take p++putF (l.drop p) f
 |0,l,_,_=>rfl
 |p+1,[],h,_=>by simp at h
 |p+1,a::l,h,e=>by
  have b:=e 0 O1 O;have i:=je5 f p l (by simpa using h) (λj g k=>e (j+1) (by simpa using g) O);simp only[List.getElem_cons_zero]at b;rw[putF,if_pos b,List.take_succ_cons,List.drop_succ_cons,i];rfl
theorem jAL{f:Fct}(b: ∀j (a:j<l.length),C2 l[j] f<0):putF l f=l++[f]:=by
 rw[je5 f l.length l (AO _) (λj a _=>b j a),BM,List.drop_length];rfl
theorem jBP{f:Fct}{p:Nat}(h:p<l.length)(b: ∀j (hj:j<l.length),j<p->C2 l[j] f<0)(a:C2 l[p] f=0):putF l f=l:=by
 rw[je5 f p l O b,BQ h,putF,if_neg O,if_pos a,<-BQ h,List.take_append_drop]
theorem jBE{f:Fct}{p:Nat}(h:p<l.length)(e: ∀j (hj:j<l.length),j<p->C2 l[j] f<0)(a: ¬C2 l[p] f<0)(b: ¬C2 l[p] f=0):putF l f=l.take p++f::l.drop p:=by
 rw[je5 f p l O e,BQ h,putF,if_neg a,if_neg b]
theorem jal(f:Fct)(l:List Fct)(q:f.Mild)(w:f.Val)(t: ∀g∈l,g.Mild)(v: ∀g∈l,g.Val)(y:l.length<=1000000):CallsF prog 359 [.c (C1 l),.agg f.ds] (.u (.c (.d (C1 (putF l f))))):=by
 have k:=λg r=>jnc g f (t g r) q (v g r) w;clear t v q w;simp only[Fct.ds]at k ⊢;refine oA func359 ?_;refine AV (λi:Nat=>⟨[(5,vI .i64 i),(3,vC (.ptr 3 0)),(0,vC (.d (C1 l)))],[(3,.box [.d (.int .i64 f.kind),.d (AT f.args),.d (.bool f.neg),.d (Ad f.abs),.d (Ad f.den)])]⟩) (λi=>i<=l.length/\ ∀j (a:j<l.length),j<i->C2 l[j] f<0) (λi=>l.length - i) 0 O1 O1 ?_;rintro i ⟨x,o⟩;by_cases h:i<l.length
 ·have k:=k l[i] (AZ h);have p:=VX h;by_cases g:C2 l[i] f<0
  ·refine rA ?_;refine AA jjZ jiH O5 ?_;refine rA2 h p ?_;refine aA1 g k ?_;exact⟨O,⟨O,λj a z=>if e:j=i then by subst e;exact g else o j a O⟩,O⟩
  ·refine rA ?_;refine AA jjZ jiH O5 ?_;refine rA2 h p ?_;refine aA1 g k ?_;refine AA jqC joi O5 ?_;refine rA2 h p ?_;refine Ac k ?_;by_cases m:C2 l[i] f=0
   ·refine rA1 m ?_;rw[jBP h o m]
   ·refine rA1 m ?_;refine AA jr3 jpq O5 ?_;refine rA ?_;have b:min i l.length=i:=O;rw[b,jBE h o g m];refine⟨O,O,O,O,O,O,O,jsB ?_ ?_⟩
    ·simp;omega
    ·simp[Fct.ds]
 ·have:i=l.length:=O;subst this;refine rA ?_;refine AA jjZ jiH O5 ?_;refine rA ?_;refine AA jqC joi O5 ?_;refine rA ?_;refine AA jr3 jpq O5 ?_;refine rA ?_;rw[jAL (λj a=>o j a a)];refine⟨O,O,O,O,O,jsB ?_ ?_⟩
  ·simp
  ·simp[Fct.ds]
def jsy:List (List Nat):=(Ah [0,0,0,6,15,0,0,64,224,511,1023])
@[simp]def jsk:List Seg:=[.any [] [25,29] [⟨1,[],[],[29],[]⟩,⟨0,[2],[25],[25,29],[]⟩,⟨0,[8],[25],[25,29],[]⟩,⟨0,[26,27],[25],[25,29],[]⟩,⟨3,[25,28],[],[],[25]⟩,⟨0,[2],[25,29],[25,29],[]⟩,⟨0,[8],[25,29],[25,29],[]⟩,⟨0,[31],[25,29],[25,29],[]⟩,⟨0,[30,32],[25,29],[25,29],[]⟩],.one,.one]
def jsN:List (List Nat):=(Ah [0,0,0,6,0,0,48,112,240,510,0,2047,4095])
@[simp]def jqJ:List Seg:=[.any [] [36,38,43,44] [⟨0,[0],[36,38,43,44],[36,38,43,44],[]⟩,⟨1,[],[43],[38,43,44],[]⟩,⟨0,[1],[36,43],[36,38,43,44],[]⟩,⟨3,[36,37],[43],[43,44],[36]⟩,⟨0,[2],[36,38],[36,38,43,44],[]⟩,⟨0,[8],[36,38],[36,38,43,44],[]⟩,⟨0,[39,40],[36,38],[36,38,43,44],[]⟩,⟨0,[41],[36,38],[36,38,43,44],[]⟩,⟨1,[42],[36,38],[36,38,44],[]⟩,⟨3,[38,43],[],[],[38]⟩,⟨0,[9],[36,38,43,44],[36,38,43,44],[]⟩],.one,.one]
theorem jlk(f:Fct)(l:List Int)(a:l.length<=1000000):CallsF prog 360 [.agg f.ds,.c (AT l)] (Fct.res ⟨f.kind,l,f.neg,f.abs,f.den⟩):=by
 simp only[Fct.ds];refine oA func360 ?_;refine AA (Ah [0,1,0,0,12,0,32,127,255]) [.any [] [7,9] [⟨0,[2],[7,9],[7,9],[]⟩,⟨0,[5],[7,9],[7,9],[]⟩,⟨1,[],[],[9],[]⟩,⟨0,[1],[7],[7,9],[]⟩,⟨3,[7,8],[],[],[7]⟩,⟨0,[2],[7,9],[7,9],[]⟩,⟨0,[10],[7,9],[7,9],[]⟩],.one,.one] O5 ?_;simp -implicitDefEqProofs[jJ,-qA,-qB,Fct.res];exact⟨O,O⟩
def VO(a b c:Int):Int×Int:=if c=1 then (b,a) else (a,b)
theorem jeB(a b c:Int):CallsF prog 362 [.c (.int .i64 a),.c (.int .i64 b),.c (.int .i64 c)] (.u (.agg [.d (.int .i64 (VO a b c).1),.d (.int .i64 (VO a b c).2)])):=by
 unfold VO;refine cO func362 rfl ?_;by_cases h:c=1
 ·exact kA1 h
 ·exact kA1 h
def Mq(k:Int):Nat->List Int->List Int->List Fct
 |0,d,_=>[⟨k,d,false,[],[]⟩]
 |n+1,d,r=>((aD (n+1)).map λi=>Mq k n (d++[r.getD i 0]) (r.take i++r.drop (i+1))).foldl Dc []
theorem jyc(k:Int)(d:List Int)(a:d.length<=8):CallsF prog 358 [.c (.int .i64 k),.c (AT d),.c (AT [])] (.u (.c (.d (C1 (Mq k 0 d []))))):=by
 unfold Mq;refine oA func358 ?_;rfl
theorem jjI{f x:Fct}: ∀{l:List Fct},x∈putF l f->x=f\/x∈l
 |[],h=>by simpa [putF]using h
 |a::l,h=>by
  unfold putF at h;split at h
  ·rcases jzn.1 h with h|h
   ·simp[h]
   ·rcases jjI h with h|h<;>simp[h]
  ·split at h
   ·exact .inr h
   ·simpa using h
theorem jdF{x:Fct}: ∀{m l:List Fct},x∈Dc l m->x∈l\/x∈m
 |[],l,h=> .inl h
 |f::m,l,h=>by
  rcases jdF (m:=m) (l:=putF l f) h with h|h
  ·rcases jjI h with h|h<;>simp[h]
  ·simp[h]
theorem jek{x:Fct}: ∀{Ls:List (List Fct)} {A:List Fct},x∈Ls.foldl Dc A->x∈A\/ ∃L∈Ls,x∈L
 |[],A,h=> .inl h
 |L::Ls,A,h=>by
  rcases jek (Ls:=Ls) (A:=Dc A L) h with h|⟨L',a,b⟩
  ·rcases jdF h with h|h
   ·exact .inl h
   ·exact .inr ⟨L,O1,h⟩
  ·exact .inr ⟨L',by simp[a],b⟩
theorem jc9{b:Nat}: ∀{Ls:List (List Fct)} {A:List Fct},(∀L∈Ls,L.length<=b)->(Ls.foldl Dc A).length<=A.length+Ls.length*b
 |[],A,_=>O1
 |L::Ls,A,h=>by
  have e:=jc9 (Ls:=Ls) (A:=Dc A L) (λL' a=>h L' (by simp[a]));have f:=ZC L A;have g:=h L O1;simp only[List.foldl_cons,List.length_cons,Nat.add_mul];omega
theorem jwU(l:List Fct)(f:Fct):putF l f≠[]:=by
 cases l with
 |nil=>simp[putF]
 |cons a l=>
  unfold putF;split
  ·simp
  ·split<;>simp
theorem jp4: ∀{m l:List Fct},(l≠[]\/m≠[])->Dc l m≠[]
 |[],l,h=>by simpa [Dc]using h
 |f::m,l,_=>jp4 (m:=m) (l:=putF l f) (.inl (jwU l f))
theorem jf6(k:Int)(n:Nat)(d r:List Int):Mq k (n+1) d r=((aD (n+1)).map λi=>Mq k n (d++[r.getD i 0]) (r.take i++r.drop (i+1))).foldl Dc []:=rfl
theorem jc3(M:Nat->List Fct)(i:Nat):((aD (i+1)).map M).foldl Dc []=Dc (((aD i).map M).foldl Dc []) (M i):=by
 rw[aN,aO,aG];rfl
theorem jp6(k:Int): ∀(n:Nat) (d r:List Int),Mq k n d r≠[]
 |0,d,r=>by simp[Mq]
 |n+1,d,r=>by
  rw[jf6,jc3 (λi=>Mq k n (d++[r.getD i 0]) (r.take i++r.drop (i+1))) n];exact jp4 (.inr (jp6 k n _ _))
def Pln(k:Int)(m:Nat)(x:Fct):Prop:= ∃p:List Int,p.length=m/\x=⟨k,p,false,[],[]⟩
theorem Pln.mild{k:Int}{m:Nat}{x:Fct}(h:Pln k m x)(b:m<=8):x.Mild:=by
 obtain⟨p,a,rfl⟩:=h;exact jid k p O
theorem Pln.val{k:Int}{m:Nat}{x:Fct}(h:Pln k m x)(b:k≠9):x.Val:=by
 obtain⟨p,e,rfl⟩:=h;exact λa=>absurd a b
theorem jpt(k:Int): ∀(n:Nat) (d r:List Int),r.length=n-> ∀x∈Mq k n d r,Pln k (n+d.length) x
 |0,d,r,j,x,a=>⟨d,O1,by simpa [Mq]using a⟩
 |n+1,d,r,j,x,a=>by
  rw[jf6]at a;rcases jek a with h|⟨L,f,g⟩
  ·cases h
  ·obtain⟨i,hi,rfl⟩:=jzk.1 f;have hi:=aR.1 hi;obtain⟨p,b,e⟩:=jpt k n _ _ (by simp;omega) x g;exact⟨p,by rw[b];simp;omega,e⟩
def jcx:Nat->Nat|0=>1|n+1=>(n+1)*jcx n
theorem joC(k:Int): ∀(n:Nat) (d r:List Int),(Mq k n d r).length<=jcx n
 |0,d,r=>by simp[Mq,jcx]
 |n+1,d,r=>by
  rw[jf6];have:=jc9 (b:=jcx n) (A:=[]) (Ls:=(aD (n+1)).map λi=>Mq k n (d++[r.getD i 0]) (r.take i++r.drop (i+1))) (λL a=>by
   obtain⟨i,_,rfl⟩:=jzk.1 a;exact joC k n _ _)
  simpa [jcx]using this
theorem jwx: ∀n:Nat,n<=8->jcx n<=40320:=O2
theorem jqN(k:Int)(F:k≠9): ∀(n:Nat) (d r:List Int),r.length=n->n+d.length<=8->CallsF prog 358 [.c (.int .i64 k),.c (AT d),.c (AT r)] (.u (.c (.d (C1 (Mq k n d r)))))
 |0,d,r,f,hd=>by
  obtain rfl:r=[]:=jzv.1 f;exact jyc k d O
 |n+1,d,r,f,hd=>by
  have E:=λi (hi:i<n+1)=>jqN k F n (d++[r.getD i 0]) (r.take i++r.drop (i+1)) (by simp;omega) (by simp;omega);have all:=λi (hi:i<n+1)=>jpt k n (d++[r.getD i 0]) (r.take i++r.drop (i+1)) (by simp;omega);have l:=λi=>Nat.le_trans (joC k n (d++[r.getD i 0]) (r.take i++r.drop (i+1))) (jwx n O);have W:=λi=>jp6 k n (d++[r.getD i 0]) (r.take i++r.drop (i+1));generalize K:(λi=>Mq k n (d++[r.getD i 0]) (r.take i++r.drop (i+1)))=M at*;have z: ∀i,Mq k n (d++[r.getD i 0]) (r.take i++r.drop (i+1))=M i:=λi=>congrFun K i;rw[Mq,K];simp only[z]at E W all l;simp only[List.length_append,List.length_singleton]at all;clear K z;refine cO func358 rfl ?_;refine rA1 f ?_;refine AV (λx:Nat×Option (List Fct)=>match x with
    |(i,none)=>⟨[(8,vI .i64 i),(7,vC (.sl 7 0 0)),(0,vI .i64 k),(1,vC (.d (AT d))),(2,vC (.d (AT r)))],[(7,.row 5 [] true)]⟩
    |(i,some L)=>⟨[(8,vI .i64 i),(7,vC (.d (C1 L))),(0,vI .i64 k),(1,vC (.d (AT d))),(2,vC (.d (AT r)))],[]⟩)
   (λx=>x.1<=n+1/\(x.2=none/\x.1=0\/x.1≠0/\x.2=some (((aD x.1).map M).foldl Dc []))) (λx=>n+1 - x.1) (0,none) O1 O1 ?_
  rintro⟨i,o⟩ ⟨X,t⟩;simp only at X t;by_cases h:i<n+1
  ·have E:=E i h;have p:min i (n+1)=i:=O;have Q:D.slice (d.length+1) (aH (d.length+1) (d.map i64++[.int .i64 r[i]]))=AT (d++[r.getD i 0]):=by
    rw[Ba O1,AL,AD O];show _=D.slice _ _;simp[i64]
   have S:D.slice (i+(n - i)) (aH (i+(n - i)) (aH i (r.map i64)++List.drop (i+1) (r.map i64)))=AT (r.take i++r.drop (i+1)):=by
    rw[Ba (by simp;omega)];show _=D.slice _ _;simp;omega
   rcases t with⟨rfl,t⟩|⟨t,rfl⟩
   ·refine rA2 f h ?_;refine AA jsy jsk O5 ?_;refine rA1 f ?_;refine⟨O,O,O,O,O,?_⟩;refine AA jsN jqJ O5 ?_;refine rD3 f h p ?_;refine⟨O,O,?_⟩;rw[Q,S];refine aA E ?_;have a:=all i h;have G:=l i;have P:=W i;refine AV (λx:Nat×Option (List Fct)=>match x with
      |(j,none)=>⟨[(11,vI .i64 j),(10,vC (.d (C1 (M i)))),(8,vI .i64 i),(7,vC (.sl 7 0 0)),(0,vI .i64 k),(1,vC (.d (AT d))),(2,vC (.d (AT r)))],[(7,.row 5 [] true)]⟩
      |(j,some L)=>⟨[(11,vI .i64 j),(10,vC (.d (C1 (M i)))),(8,vI .i64 i),(7,vC (.d (C1 L))),(0,vI .i64 k),(1,vC (.d (AT d))),(2,vC (.d (AT r)))],[]⟩)
     (λx=>x.1<=(M i).length/\(x.2=none/\x.1=0\/x.1≠0/\x.2=some (Dc [] ((M i).take x.1)))) (λx=>(M i).length - x.1) (0,none) O1 O1 ?_
    rintro⟨j,o⟩ ⟨T,m⟩;simp only at T m;by_cases g:j<(M i).length
    ·have e: ∀y∈Dc [] ((M i).take j),Pln k (n+(d.length+1)) y:=λy hy=>by
      rcases jdF hy with hy|hy
      ·cases hy
      ·exact a y (aJ hy)
     have v:=ZC ((M i).take j) [];simp only[aP,A8]at v;have q:=jal (M i)[j] (Dc [] ((M i).take j)) ((a _ (AZ g)).mild O) ((a _ (AZ g)).val F) (λy hy=>(e y hy).mild O) (λy hy=>(e y hy).val F) O;have H:=VX g;have I:putF (Dc [] ((M i).take j)) (M i)[j]=Dc [] ((M i).take (j+1)):=by
      rw[Cr g];unfold Dc;rw[aG];rfl
     rw[I]at q;simp only[Fct.ds]at q;rcases m with⟨rfl,m⟩|⟨m,rfl⟩
     ·rw[show C1 (Dc [] ((M i).take j))=D.slice 0 [] from by rw[m];rfl]at q;refine rA2 g H ?_;refine aA q ?_;exact⟨O,j+1,some (Dc [] ((M i).take (j+1))),by simp[AW,lk],⟨O,.inr ⟨O,rfl⟩⟩,O⟩
     ·refine rA2 g H ?_;refine aA q ?_;exact⟨O,j+1,some (Dc [] ((M i).take (j+1))),by simp[AW,lk],⟨O,.inr ⟨O,rfl⟩⟩,O⟩
    ·have:j=(M i).length:=O;subst this;rcases m with⟨rfl,m⟩|⟨_,rfl⟩
     ·exact absurd (jzv.1 m) P
     ·have J:Dc [] (M i)=((aD (i+1)).map M).foldl Dc []:=by
       rw[jc3,t];rfl
      rw[BM,J];refine rA ?_;exact⟨O,i+1,some _,by simp[AW,lk],⟨O,.inr ⟨O,rfl⟩⟩,O⟩
   ·refine rA2 f h ?_;refine AA jsy jsk O5 ?_;refine rA1 f ?_;refine⟨O,O,O,O,O,?_⟩;refine AA jsN jqJ O5 ?_;refine rD3 f h p ?_;refine⟨O,O,?_⟩;rw[Q,S];refine aA E ?_;have a:=all i h;have G:=l i;have hA: ∀y∈((aD i).map M).foldl Dc [],Pln k (n+(d.length+1)) y:=λy hy=>by
     rcases jek hy with hy|⟨L,Y,Z⟩
     ·cases hy
     ·obtain⟨N,h5,rfl⟩:=jzk.1 Y;exact all N (by have:=aR.1 h5;omega) y Z
    have w:=jc9 (b:=40320) (A:=[]) (Ls:=(aD i).map M) (λL hL=>by
     obtain⟨N,_,rfl⟩:=jzk.1 hL;exact l N)
    have J:=jc3 M i;simp only[aP,List.length_map,List.length_range]at w;generalize hAA:((aD i).map M).foldl Dc []=A at*;have w:A.length<=400000:=O;refine AV (λj:Nat=>⟨[(11,vI .i64 j),(10,vC (.d (C1 (M i)))),(8,vI .i64 i),(7,vC (.d (C1 (Dc A ((M i).take j))))),(0,vI .i64 k),(1,vC (.d (AT d))),(2,vC (.d (AT r)))],[]⟩)
     (λj=>j<=(M i).length) (λj=>(M i).length - j) 0 (by simp[Dc]) O1 ?_
    rintro j T;by_cases g:j<(M i).length
    ·have e: ∀y∈Dc A ((M i).take j),Pln k (n+(d.length+1)) y:=λy hy=>by
      rcases jdF hy with hy|hy
      ·exact hA y hy
      ·exact a y (aJ hy)
     have v:=ZC ((M i).take j) A;simp only[A8]at v;have q:=jal (M i)[j] (Dc A ((M i).take j)) ((a _ (AZ g)).mild O) ((a _ (AZ g)).val F) (λy hy=>(e y hy).mild O) (λy hy=>(e y hy).val F) O;have H:=VX g;have I:putF (Dc A ((M i).take j)) (M i)[j]=Dc A ((M i).take (j+1)):=by
      rw[Cr g];unfold Dc;rw[aG];rfl
     rw[I]at q;simp only[Fct.ds]at q;refine rA2 g H ?_;refine aA q ?_;exact⟨O,j+1,⟨rfl,rfl⟩,O,O⟩
    ·have:j=(M i).length:=O;subst this;rw[BM,<-J];refine rA ?_;exact⟨O,i+1,some _,by simp[AW,lk],⟨O,.inr ⟨O,rfl⟩⟩,O⟩
  ·have:i=n+1:=O;subst this;rcases t with⟨rfl,t⟩|⟨_,rfl⟩
   ·omega
   ·exact kA1 f
def jnk:List (List Nat):=(Ah [0,0,3,7,0,0,32,112,240,0,0,1536,3584,8191,0,32767])
@[simp]def jjg:List Seg:=[.any [] [11] [⟨0,[3],[11],[11],[]⟩,⟨0,[10],[11],[11],[]⟩,⟨0,[40,41],[11],[11],[]⟩,⟨0,[42],[11],[11],[]⟩,⟨0,[3],[11],[11],[]⟩,⟨0,[10],[11],[11],[]⟩,⟨0,[45],[11],[11],[]⟩,⟨0,[44,46],[11],[11],[]⟩,⟨0,[47],[11],[11],[]⟩,⟨0,[7],[11],[11],[]⟩,⟨0,[9],[11],[11],[]⟩,⟨0,[49,50],[11],[11],[]⟩,⟨0,[51],[11],[11],[]⟩,⟨0,[43,48,52],[11],[11],[]⟩,⟨1,[],[],[],[]⟩],.one]
def tbR:List Nat:=[0,2,4,6,0,4,2,6,6,2,4,0,6,4,2,0,2,0,6,4,2,6,0,4,4,0,6,2,4,6,0,2]
def tbC:List C:=tbR.map λn:Nat=>C.d (.int .i64 (n:Int))
def H1(t i:Nat):Nat:=tbR.getD (t*4+i) 0
@[simp]theorem tbC_len:tbC.length=32:=rfl
theorem jma(t i:Nat):H1 t i+1<8:=by
 unfold H1;rw[AL];by_cases h:t*4+i<tbR.length
 ·rw[AD h,aI];have: ∀x∈tbR,x+1<8:=O2;exact this _ (AZ h)
 ·rw[B9 O];decide
@[simp]theorem tbC_on(f:C->C)(a: ∀d,f (.d d)= .d d):tbC.map f=tbC:=by
 unfold tbC;rw[List.map_map];exact List.map_congr_left λn _=>a _
theorem jju{t i:Nat}(a:t<8)(hi:i<4):tbC[t*4+i]'(by show t*4+i<32;omega)= .d (.int .i64 (H1 t i)):=by
 have h:t*4+i<tbR.length:=by show t*4+i<32;omega
 unfold tbC H1;rw[List.getElem_map,AL,AD h];rfl
def seA(l:List Int)(t s i:Nat):Int×Int:=VO (l.getD (H1 t i) 0) (l.getD (H1 t i+1) 0) ((s/2^i%2:Nat):Int)
def SK(l:List Int)(t s:Nat):Nat->List Int
 |0=>[]
 |i+1=>SK l t s i++[(seA l t s i).1,(seA l t s i).2]
theorem Yb(l:List Int)(t s i:Nat):(SK l t s i).length=2*i:=by
 induction i with
 |zero=>rfl
 |succ i a=>simp[SK,a];omega
def Tf(l:List Int)(t s i:Nat):List D:=(SK l t s i).map i64
theorem Xu(l:List Int)(t s i:Nat):(Tf l t s i).length=2*i:=by simp[Tf,Yb]
theorem jjz(l:List Int)(t s i:Nat):Tf l t s (i+1)=Tf l t s i++[.int .i64 (seA l t s i).1,.int .i64 (seA l t s i).2]:=by simp[Tf,SK,i64]
def jgS(l:List Int)(t s:Nat):Fct:=⟨7,SK l t s 4,false,[],[]⟩
def Ms(l:List Int)(t:Nat)(n:Nat):List Fct:=(aD n).map (jgS l t)
def OD(l:List Int)(n:Nat):List Fct:=((aD n).map λt=>Ms l t 16).foldl Dc []
theorem juD(l:List Int)(t n:Nat)(A:List Fct):Dc A (Ms l t (n+1))=putF (Dc A (Ms l t n)) (jgS l t n):=by
 unfold Ms Dc;rw[aN,aO,aG];rfl
theorem jpT(l:List Int)(n:Nat):OD l (n+1)=Dc (OD l n) (Ms l n 16):=jc3 (λt=>Ms l t 16) n
theorem jmI(l:List Int)(t s:Nat):Pln 7 8 (jgS l t s):=⟨SK l t s 4,by rw[Yb],rfl⟩
theorem jsE{l:List Int}{t:Nat}{x:Fct}(h:x∈Ms l t n):Pln 7 8 x:=by
 obtain⟨s,_,rfl⟩:=jzk.1 h;exact jmI l t s
theorem juA{l:List Int}{x:Fct}(h:x∈OD l n):Pln 7 8 x:=by
 rcases jek h with h|⟨L,a,b⟩
 ·cases h
 ·obtain⟨t,_,rfl⟩:=jzk.1 a;exact jsE b
theorem jt1(l:List Int)(n:Nat):(OD l n).length<=n*16:=by
 have:=jc9 (b:=16) (A:=[]) (Ls:=(aD n).map λt=>Ms l t 16) (λL a=>by
  obtain⟨t,_,rfl⟩:=jzk.1 a;simp[Ms])
 simpa [OD]using this
theorem jw3(l:List Int)(t s:Nat)(h:t<=8)(g:s<=16):CallsF prog 359 [.c (C1 (Dc (OD l t) (Ms l t s))),.agg [.int .i64 7,AT (SK l t s 4),.bool false,Ad [],Ad []]] (.u (.c (.d (C1 (Dc (OD l t) (Ms l t (s+1))))))):=by
 have a: ∀y∈Dc (OD l t) (Ms l t s),Pln 7 8 y:=λy hy=>by
  rcases jdF hy with hy|hy
  ·exact juA hy
  ·exact jsE hy
 have b:=ZC (Ms l t s) (OD l t);have e:=jt1 l t;have f:(Ms l t s).length=s:=by simp[Ms]
 have:=jal (jgS l t s) (Dc (OD l t) (Ms l t s)) ((jmI l t s).mild O) ((jmI l t s).val O) (λy hy=>(a y hy).mild O) (λy hy=>(a y hy).val O) O;rw[juD];exact this
theorem jtA(l:List Int)(I:l.length=8):CallsF prog 361 [.agg [.int .i64 7,AT l,.bool false,Ad [],Ad []]] (.u (.c (.d (C1 (OD l 8))))):=by
 refine oB func361 ?_;refine AV (λx:Nat×Option (List Fct)=>match x with
    |(t,none)=>⟨[(6,vI .i64 t),(5,vC (.sl 5 0 0)),(4,vC (.ptr 4 0)),(3,vC (.d (AT l))),(1,vC (.ptr 1 0))],[(5,.row 5 [] true),(4,.box tbC),(1,.box [.d (.int .i64 7),.d (AT l),.d (.bool false),.d (Ad []),.d (Ad [])])]⟩
    |(t,some L)=>⟨[(6,vI .i64 t),(5,vC (.d (C1 L))),(4,vC (.ptr 4 0)),(3,vC (.d (AT l))),(1,vC (.ptr 1 0))],[(4,.box tbC),(1,.box [.d (.int .i64 7),.d (AT l),.d (.bool false),.d (Ad []),.d (Ad [])])]⟩)
   (λx=>x.1<=8/\(x.2=none/\x.1=0\/x.1≠0/\x.2=some (OD l x.1))) (λx=>8 - x.1) (0,none) (by simp[tbC,tbR]) O1 ?_
 rintro⟨t,o⟩ ⟨P,j⟩;simp only at P j;by_cases h:t<8
 ·have N:=λs (Q:s<16)=>jw3 l t s O O;rcases j with⟨rfl,j⟩|⟨j,rfl⟩
  ·refine rB1 h ?_;refine AV (λx:Nat×Option (List Fct)=>match x with
    |(s,none)=>⟨[(7,vI .i64 s),(6,vI .i64 t),(5,vC (.sl 5 0 0)),(4,vC (.ptr 4 0)),(3,vC (.d (AT l))),(1,vC (.ptr 1 0))],[(5,.row 5 [] true),(4,.box tbC),(1,.box [.d (.int .i64 7),.d (AT l),.d (.bool false),.d (Ad []),.d (Ad [])])]⟩
    |(s,some L)=>⟨[(7,vI .i64 s),(6,vI .i64 t),(5,vC (.d (C1 L))),(4,vC (.ptr 4 0)),(3,vC (.d (AT l))),(1,vC (.ptr 1 0))],[(4,.box tbC),(1,.box [.d (.int .i64 7),.d (AT l),.d (.bool false),.d (Ad []),.d (Ad [])])]⟩)
     (λx=>x.1<=16/\(x.2=none/\x.1=0\/x.1≠0/\x.2=some (Dc (OD l t) (Ms l t x.1)))) (λx=>16 - x.1) (0,none) O1 O1 ?_
   rintro⟨s,o⟩ ⟨J,e⟩;simp only at J e;by_cases g:s<16
   ·have q:=N s g;rcases e with⟨rfl,e⟩|⟨e,rfl⟩
    ·rw[show C1 (Dc (OD l t) (Ms l t s))=D.slice 0 [] from by rw[e,j];rfl]at q;refine rB1 g ?_;have M:=Yb l t s 4;refine CE [(8,60)] (λi:Nat=>⟨[(9,vI .i64 i),(8,vC (.sl 8 0 (2*i))),(7,vI .i64 s),(6,vI .i64 t),(5,vC (.sl 5 0 0)),(4,vC (.ptr 4 0)),(3,vC (.d (AT l))),(1,vC (.ptr 1 0))],[(8,.row 1 (Tf l t s i) true),(5,.row 5 [] true),(4,.box tbC),(1,.box [.d (.int .i64 7),.d (AT l),.d (.bool false),.d (Ad []),.d (Ad [])])]⟩)
      (λi=>i<=4) (λi=>4 - i) 0 (by simp[Tf,SK]) O1 ?_
     rintro i K;by_cases f:i<4
     ·have k:=jju h f;have m:=jma t i;have p:t*4+i<32:=O;have a:=jeB (l.getD (H1 t i) 0) (l.getD (H1 t i+1) 0) ((s/2^i%2:Nat):Int);have r:=Xu l t s i;have v:=jjz l t s i;have b:seA l t s i=VO (l.getD (H1 t i) 0) (l.getD (H1 t i+1) 0) ((s/2^i%2:Nat):Int):=rfl;rw[<-b]at a;generalize seA l t s i=z at*;clear b;have w:l[H1 t i]' O=l.getD (H1 t i) 0:=by rw[AL,AD O];rfl
      have E:l[H1 t i+1]' O=l.getD (H1 t i+1) 0:=by rw[AL,AD O];rfl
      have G:min i 64=i:=O;have F:H1 t i<8:=O;generalize l.getD (H1 t i) 0=x at*;generalize l.getD (H1 t i+1) 0=y at*;simp -implicitDefEqProofs[jJ,-qA,-qB,-qC,-qD,-qE,f,h,k,p];refine AA jnk jjg O5 ?_;simp -implicitDefEqProofs[jJ,-qA,-qB,-qC,-qD,-qE,I,m,w,E,F,G,i64];refine⟨O,?_⟩;refine aB1 r a ?_;exact⟨O,O,i+1,⟨⟨rfl,O⟩,v.symm⟩,O,O⟩
     ·have:i=4:=O;subst this;have H:D.slice 8 (aH 8 (Tf l t s 4))=AT (SK l t s 4):=by
       rw[Ba (by rw[Xu];omega)];show _=D.slice _ _;rw[Yb];rfl
      simp -implicitDefEqProofs[jJ,-qA,-qB,-qC,-qD,-qE,Xu,H];refine aB q ?_;exact⟨O,s+1,some _,by simp[AW,lk],⟨O,.inr ⟨O,rfl⟩⟩,O⟩
    ·refine rB1 g ?_;have M:=Yb l t s 4;refine CE [(8,60)] (λi:Nat=>⟨[(9,vI .i64 i),(8,vC (.sl 8 0 (2*i))),(7,vI .i64 s),(6,vI .i64 t),(5,vC (.d (C1 (Dc (OD l t) (Ms l t s))))),(4,vC (.ptr 4 0)),(3,vC (.d (AT l))),(1,vC (.ptr 1 0))],[(8,.row 1 (Tf l t s i) true),(4,.box tbC),(1,.box [.d (.int .i64 7),.d (AT l),.d (.bool false),.d (Ad []),.d (Ad [])])]⟩)
      (λi=>i<=4) (λi=>4 - i) 0 (by simp[Tf,SK]) O1 ?_
     rintro i K;by_cases f:i<4
     ·have k:=jju h f;have m:=jma t i;have p:t*4+i<32:=O;have a:=jeB (l.getD (H1 t i) 0) (l.getD (H1 t i+1) 0) ((s/2^i%2:Nat):Int);have r:=Xu l t s i;have v:=jjz l t s i;have b:seA l t s i=VO (l.getD (H1 t i) 0) (l.getD (H1 t i+1) 0) ((s/2^i%2:Nat):Int):=rfl;rw[<-b]at a;generalize seA l t s i=z at*;clear b;have w:l[H1 t i]' O=l.getD (H1 t i) 0:=by rw[AL,AD O];rfl
      have E:l[H1 t i+1]' O=l.getD (H1 t i+1) 0:=by rw[AL,AD O];rfl
      have G:min i 64=i:=O;have F:H1 t i<8:=O;generalize l.getD (H1 t i) 0=x at*;generalize l.getD (H1 t i+1) 0=y at*;simp -implicitDefEqProofs[jJ,-qA,-qB,-qC,-qD,-qE,f,h,k,p];refine AA jnk jjg O5 ?_;simp -implicitDefEqProofs[jJ,-qA,-qB,-qC,-qD,-qE,I,m,w,E,F,G,i64];refine⟨O,?_⟩;refine aB1 r a ?_;exact⟨O,O,i+1,⟨⟨rfl,O⟩,v.symm⟩,O,O⟩
     ·have:i=4:=O;subst this;have H:D.slice 8 (aH 8 (Tf l t s 4))=AT (SK l t s 4):=by
       rw[Ba (by rw[Xu];omega)];show _=D.slice _ _;rw[Yb];rfl
      simp -implicitDefEqProofs[jJ,-qA,-qB,-qC,-qD,-qE,Xu,H];refine aB q ?_;exact⟨O,s+1,some _,by simp[AW,lk],⟨O,.inr ⟨O,rfl⟩⟩,O⟩
   ·have:s=16:=O;subst this;rcases e with⟨rfl,e⟩|⟨e,rfl⟩
    ·omega
    ·rw[<-jpT];refine rB ?_;exact⟨O,t+1,some _,by simp[AW,lk],⟨O,.inr ⟨O,rfl⟩⟩,O⟩
  ·refine rB1 h ?_;refine AV (λs:Nat=>⟨[(7,vI .i64 s),(6,vI .i64 t),(5,vC (.d (C1 (Dc (OD l t) (Ms l t s))))),(4,vC (.ptr 4 0)),(3,vC (.d (AT l))),(1,vC (.ptr 1 0))],[(4,.box tbC),(1,.box [.d (.int .i64 7),.d (AT l),.d (.bool false),.d (Ad []),.d (Ad [])])]⟩)
     (λs=>s<=16) (λs=>16 - s) 0 (by simp[Ms,Dc]) O1 ?_
   rintro s J;by_cases g:s<16
   ·have q:=N s g;refine rB1 g ?_;have M:=Yb l t s 4;refine CE [(8,60)] (λi:Nat=>⟨[(9,vI .i64 i),(8,vC (.sl 8 0 (2*i))),(7,vI .i64 s),(6,vI .i64 t),(5,vC (.d (C1 (Dc (OD l t) (Ms l t s))))),(4,vC (.ptr 4 0)),(3,vC (.d (AT l))),(1,vC (.ptr 1 0))],[(8,.row 1 (Tf l t s i) true),(4,.box tbC),(1,.box [.d (.int .i64 7),.d (AT l),.d (.bool false),.d (Ad []),.d (Ad [])])]⟩)
     (λi=>i<=4) (λi=>4 - i) 0 (by simp[Tf,SK]) O1 ?_
    rintro i K;by_cases f:i<4
    ·have k:=jju h f;have m:=jma t i;have p:t*4+i<32:=O;have a:=jeB (l.getD (H1 t i) 0) (l.getD (H1 t i+1) 0) ((s/2^i%2:Nat):Int);have r:=Xu l t s i;have v:=jjz l t s i;have b:seA l t s i=VO (l.getD (H1 t i) 0) (l.getD (H1 t i+1) 0) ((s/2^i%2:Nat):Int):=rfl;rw[<-b]at a;generalize seA l t s i=z at*;clear b;have w:l[H1 t i]' O=l.getD (H1 t i) 0:=by rw[AL,AD O];rfl
     have E:l[H1 t i+1]' O=l.getD (H1 t i+1) 0:=by rw[AL,AD O];rfl
     have G:min i 64=i:=O;have F:H1 t i<8:=O;generalize l.getD (H1 t i) 0=x at*;generalize l.getD (H1 t i+1) 0=y at*;simp -implicitDefEqProofs[jJ,-qA,-qB,-qC,-qD,-qE,f,h,k,p];refine AA jnk jjg O5 ?_;simp -implicitDefEqProofs[jJ,-qA,-qB,-qC,-qD,-qE,I,m,w,E,F,G,i64];refine⟨O,?_⟩;refine aB1 r a ?_;exact⟨O,O,i+1,⟨⟨rfl,O⟩,v.symm⟩,O,O⟩
    ·have:i=4:=O;subst this;have H:D.slice 8 (aH 8 (Tf l t s 4))=AT (SK l t s 4):=by
      rw[Ba (by rw[Xu];omega)];show _=D.slice _ _;rw[Yb];rfl
     simp -implicitDefEqProofs[jJ,-qA,-qB,-qC,-qD,-qE,Xu,H];refine aB q ?_;exact⟨O,s+1,⟨rfl,rfl⟩,O,O⟩
   ·have:s=16:=O;subst this;rw[<-jpT];refine rB ?_;exact⟨O,t+1,some _,by simp[AW,lk],⟨O,.inr ⟨O,rfl⟩⟩,O⟩
 ·have:t=8:=O;subst this;rcases j with⟨rfl,j⟩|⟨j,rfl⟩
  ·omega
  ·exact kB
def jqL:List (List Nat):=(Ah [0,1,3,0,8,24,0,64,255,0,512,1536,0,4096,12288,0,32768,131071,0,0,1048575,2097151])
@[simp]def jrZ:List Seg:=[.any [] [7,8] [⟨0,[3],[7,8],[7,8],[]⟩,⟨0,[62],[7,8],[7,8],[]⟩,⟨0,[63],[7,8],[7,8],[]⟩,⟨0,[3],[7,8],[7,8],[]⟩,⟨0,[65],[7,8],[7,8],[]⟩,⟨0,[66],[7,8],[7,8],[]⟩,⟨0,[6],[7,8],[7,8],[]⟩,⟨0,[68],[7,8],[7,8],[]⟩,⟨0,[64,67,69],[7,8],[7,8],[]⟩,⟨0,[3],[7,8],[7,8],[]⟩,⟨0,[71],[7,8],[7,8],[]⟩,⟨0,[72],[7,8],[7,8],[]⟩,⟨0,[3],[7,8],[7,8],[]⟩,⟨0,[74],[7,8],[7,8],[]⟩,⟨0,[75],[7,8],[7,8],[]⟩,⟨0,[6],[7,8],[7,8],[]⟩,⟨0,[77],[7,8],[7,8],[]⟩,⟨0,[73,76,78],[7,8],[7,8],[]⟩,⟨1,[],[8],[8],[]⟩,⟨1,[],[7],[7],[]⟩],.one,.one]
def pzF(a b:Int)(i:Nat):Int×Int:=VO a b ((i%2:Nat):Int)
def qzF(c e:Int)(i:Nat):Int×Int:=VO c e ((i/2:Nat):Int)
def Xg(a b c e:Int)(i:Nat):List Int:=[(pzF a b i).1,(pzF a b i).2,(qzF c e i).1,(qzF c e i).2]
def ZD(a b c e:Int)(i:Nat):List Int:=[(qzF c e i).1,(qzF c e i).2,(pzF a b i).1,(pzF a b i).2]
def QA(k:Int)(n:Bool)(m d f d2:List Nat)(a b c e:Int)(i:Nat):List Fct:=[⟨k,Xg a b c e i,n,m,d⟩,⟨k,ZD a b c e i,n,f,d2⟩]
def SI(S:Nat->List Fct)(n:Nat):List Fct:=((aD n).map S).foldl Dc []
theorem jwO(S:Nat->List Fct)(n:Nat):SI S (n+1)=Dc (SI S n) (S n):=jc3 S n
theorem jxX(h: ∀i,∀x∈S i,x.Mild/\x.Val){x:Fct}(f:x∈SI S n):x.Mild/\x.Val:=by
 rcases jek f with a|⟨L,b,e⟩
 ·cases a
 ·obtain⟨t,_,rfl⟩:=jzk.1 b;exact h t x e
theorem jy4(h: ∀i,(S i).length<=2)(n:Nat):(SI S n).length<=n*2:=by
 have:=jc9 (b:=2) (A:=[]) (Ls:=(aD n).map S) (λL a=>by
  obtain⟨t,_,rfl⟩:=jzk.1 a;exact h t)
 simpa [SI]using this
theorem joW{A:List Fct}{f:Fct}(a: ∀x∈A,x.Mild/\x.Val)(b:f.Mild/\f.Val): ∀x∈putF A f,x.Mild/\x.Val:=λx hx=>by
 rcases jjI hx with rfl|hx
 ·exact b
 ·exact a x hx
theorem jjk(k:Int)(hk:k=2\/k=3\/k=4)(a b c e:Int)(n:Bool)(m d:List Nat)
  (L:Eb ⟨k,[a,b,c,e],n,m,d⟩=true) (g:(Fct.mk k [a,b,c,e] n m d).Mild):
  CallsF prog 301 [.agg [.int .i64 k,AT [a,b,c,e],.bool n,Ad m,Ad d]] (.u (.c (.d (C1 (SI (QA k n m d m d a b c e) 4))))):=by
 have N:=XP ⟨k,[a,b,c,e],n,m,d⟩ g;rw[L]at N;have l: ∀i,∀x∈QA k n m d m d a b c e i,x.Mild/\x.Val:=λi x hx=>by
  have J:k≠9:=O;rcases jzn.1 hx with rfl|hx
  ·exact⟨⟨g.la,g.ld,g.oa,g.od,by simp[Xg]⟩,λh=>absurd h J⟩
  ·rcases jzn.1 hx with rfl|hx
   ·exact⟨⟨g.la,g.ld,g.oa,g.od,by simp[ZD]⟩,λh=>absurd h J⟩
   ·cases hx
 have f:=λt x (hx:x∈SI (QA k n m d m d a b c e) t)=>jxX l hx;have q:=jy4 (S:=QA k n m d m d a b c e) (λi=>by simp[QA]);have r:=λt (T:t<4)=>jal ⟨k,Xg a b c e t,n,m,d⟩ (SI (QA k n m d m d a b c e) t) (l t _ (by simp[QA])).1 (l t _ (by simp[QA])).2 (λy p=>(f t y p).1) (λy p=>(f t y p).2) (by have:=q t;omega);have v:=λt (T:t<4)=>jal ⟨k,ZD a b c e t,n,m,d⟩ (putF (SI (QA k n m d m d a b c e) t) ⟨k,Xg a b c e t,n,m,d⟩) (l t _ (by simp[QA])).1 (l t _ (by simp[QA])).2
  (λy p=>(joW (f t) (l t _ (by simp[QA])) y p).1) (λy p=>(joW (f t) (l t _ (by simp[QA])) y p).2) (by have:=q t;have:=jlU ⟨k,Xg a b c e t,n,m,d⟩ (SI (QA k n m d m d a b c e) t);omega)
 have G: ∀t,putF (putF (SI (QA k n m d m d a b c e) t) ⟨k,Xg a b c e t,n,m,d⟩) ⟨k,ZD a b c e t,n,m,d⟩=SI (QA k n m d m d a b c e) (t+1):=λt=>by
  rw[jwO];rfl
 simp only[G]at v;generalize K:SI (QA k n m d m d a b c e)=S at*;have P:S 0=[]:=by rw[<-K];rfl
 have E:=λt=>jlk ⟨k,[a,b,c,e],n,m,d⟩ (Xg a b c e t) (by simp[Xg]);have F:=λt=>jlk ⟨k,[a,b,c,e],n,m,d⟩ (ZD a b c e t) (by simp[ZD]);have w:=λt:Nat=>jeB a b ((t%2:Nat):Int);have z:=λt:Nat=>jeB c e ((t/2:Nat):Int);clear l f q G K g L;have W: ¬k=1:=O;have X: ¬k=5:=O;have Y: ¬k=6:=O;have Z: ¬k=7:=O;have i8: ¬k=8:=O;have M: ¬k=9:=O;simp only[Fct.ds,Fct.res]at*;refine oB func301 ?_;refine Ac N ?_;simp -implicitDefEqProofs[jJ,-qA,-qB,-qC,-qD,-qE,W,X,Y,Z,i8];refine AV (λx:Nat×Bool=>match x with
    |(i,false)=>⟨[(6,vI .i64 i),(5,vC (.sl 5 0 0)),(3,vC (.d (AT [a,b,c,e]))),(1,vC (.ptr 1 0))],[(5,.row 5 [] true),(1,.box [.d (.int .i64 k),.d (AT [a,b,c,e]),.d (.bool n),.d (Ad m),.d (Ad d)])]⟩
    |(i,true)=>⟨[(6,vI .i64 i),(5,vC (.d (C1 (S i)))),(3,vC (.d (AT [a,b,c,e]))),(1,vC (.ptr 1 0))],[(1,.box [.d (.int .i64 k),.d (AT [a,b,c,e]),.d (.bool n),.d (Ad m),.d (Ad d)])]⟩)
   (λx=>x.1<=4/\(x.2=false/\x.1=0\/x.1≠0/\x.2=true)) (λx=>4 - x.1) (0,false) O1 O1 ?_
 rintro⟨t,o⟩ ⟨Q,j⟩;simp only at Q j;by_cases h:t<4
 ·have r:=r t h;have v:=v t h;have E:=E t;have F:=F t;have w:=w t;have z:=z t;have H:pzF a b t=VO a b ((t%2:Nat):Int):=rfl;have I:qzF c e t=VO c e ((t/2:Nat):Int):=rfl;unfold Xg ZD at*;rw[<-H]at w;rw[<-I]at z;generalize pzF a b t=x at*;generalize qzF c e t=y at*;clear H I;rcases j with⟨rfl,j⟩|⟨j,rfl⟩
  ·rw[show C1 (S t)=D.slice 0 [] from by rw[j,P];rfl]at r;refine rB1 h ?_;refine AA jqL jrZ O5 ?_;refine rK ?_;refine aK w ?_;refine⟨O,?_⟩;refine aB z ?_;refine aB E ?_;refine aB1 M r ?_;refine aB F ?_;refine aB v ?_;exact⟨O,t+1,⟨rfl,rfl⟩,⟨O,O⟩,O⟩
  ·refine rB1 h ?_;refine AA jqL jrZ O5 ?_;refine rK ?_;refine aK w ?_;refine⟨O,?_⟩;refine aB z ?_;refine aB E ?_;refine aB1 M r ?_;refine aB F ?_;refine aB v ?_;exact⟨O,t+1,⟨rfl,rfl⟩,⟨O,O⟩,O⟩
 ·have:t=4:=O;subst this;rcases j with⟨rfl,j⟩|⟨j,rfl⟩
  ·omega
  ·exact kB
end Go.Va
