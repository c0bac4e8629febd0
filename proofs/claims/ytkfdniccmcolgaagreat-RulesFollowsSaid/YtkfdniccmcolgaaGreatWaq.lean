/- a part of the proof -/
import Derived.Test.YtkfdniccmcolgaaGreatWap
set_option linter.all false
set_option maxHeartbeats 4000000
set_option maxRecDepth 10000
namespace Go.Va
open Go.Proofs
def RC.dat:RC→RC
 | .d x=> .d x
 | .own sz n cs=> .d (.slice n (cs.take (n*sz)))
def RU.dat:RU→RU
 | .c x=> .c x.dat
 | .agg cs=> .agg (cs.map RC.dat)
def R.dat:R→R
 | .u x=> .u x.dat
 | .tup xs=> .tup (xs.map RU.dat)
theorem RC.dat_rows(x:RC):x.dat.rows=[]:=by cases x<;>rfl
theorem RU.dat_rows(x:RU):x.dat.rows=[]:=by
 cases x with
 |c x=>exact RC.dat_rows x
 |agg cs=>exact List.flatMap_eq_nil_iff.2 fun y hy=>by obtain⟨z,_,rfl⟩:=jzk.1 hy;exact RC.dat_rows z
theorem R.dat_rows(x:R):x.dat.rows=[]:=by
 cases x with
 |u x=>exact RU.dat_rows x
 |tup cs=>exact List.flatMap_eq_nil_iff.2 fun y hy=>by obtain⟨z,_,rfl⟩:=jzk.1 hy;exact RU.dat_rows z
section
variable {w w':World} {Z:Addr→Prop} {k:Nat} {o:Own} {bs:List Blk}
theorem RC.dat_rep(hZ: ∀ad,Z ad→ad.block<w.heap.size)(ho: ∀ad,o.has ad→w.heap.size≤ad.block)
  (hh:Heap (BN k bs o) w' Z (match bs with|[]=>[]|b::_=>[(k,b)])) (hb:bs.length≤1) {x:RC} {v:Value} (hx: ∀b∈x.rows,b∈bs)
  (h:RepC (BN k bs o) w' Z (x.imp k) v) (ρ:Aq) (hρ: ∀i,ρ i=none):RepC ρ w' Z (x.dat.imp k) v:=by
 have hk:Keep w' w' (Ag (BN k bs o) Z) (Ag ρ Z):=Keep.mono fun a ha=>by
  rcases ha with ha|⟨i,o',hi,_⟩
  ·exact .inl ha
  ·rw[hρ]at hi;cases hi
 cases x with
 |d x=>exact RepD.keep hk h
 |own sz n cs=>
  have hm:(Blk.row sz cs true)∈bs:=hx _ (by simp[RC.rows])
  obtain⟨b,rfl⟩: ∃b,bs=[b]:=by
   match bs,hb,hm with
   |[b],_,_=>exact⟨b,rfl⟩
  have hbe:Blk.row sz cs true=b:=by simpa using hm
  subst hbe;obtain⟨o1,h1,h2⟩:=hh.rep k _ (Bh k _ _);have e1:o1=o:=by
   unfold BN at h1;simp only[if_true]at h1;exact(AX h1).symm
  subst e1;obtain⟨hs,happ,hl,⟨hn1,hn2⟩,hc⟩:=h2;obtain⟨o2,h3,h4,h5⟩:=h;have e2:o2=o1:=by
   unfold BN at h3;simp only[if_true]at h3;exact(AX h3).symm
  subst e2
  show RepD w' (Ag ρ Z) (.slice n (cs.take (n*sz))) v
  rcases h5 with⟨h6,rfl,_,rfl⟩|⟨h6,a,c,rfl,h7,h8,h9,h10⟩
  ·have:(cs.take (0*sz))=[]:=by simp
   rw[this]
   exact .snil
  ·have key: ∀(j:Nat) (x:D),(cs.take (n*sz))[j]? =some x→cs[j]? =some x∧a=o2.at 0:=by
    intro j x hj;rw[List.getElem?_take]at hj;split at hj
    ·rename_i hlt
     refine⟨hj,?_⟩
     rcases h9 with h9|h9
     ·have:n=0:=by omega
      subst this;simp at hlt
     ·simpa using h9
    ·cases hj
   refine .slice n _ a c (fun j=>(w'.cell? ⟨a.block,a.off+j,none⟩).getD undef) ?_ h7 h8 ?_ ?_ ?_
   ·intro hne;obtain⟨x,hx⟩:=List.exists_mem_of_ne_nil _ hne;obtain⟨j,hj⟩:=List.getElem?_of_mem hx;rw[(key j x hj).2]
   all_goals
    intro j x hj;obtain⟨k1,k2⟩:=key j x hj;obtain⟨u,hu,hr⟩:=hc j x k1;subst k2;have he:(⟨(o2.at 0).block,(o2.at 0).off+j,none⟩:Addr)=o2.at j:=by simp[Own.at]
   ·rw[he,hu];rfl
   ·rw[he]
    have hin:o2.has (o2.at j):=by
     refine⟨by rw[hn2];exact h6,rfl,by simp[Own.at],?_⟩
     have:=(jzg.1 k1).1
     simp only[Own.at];rw[hs];omega
    rintro (hz|⟨i,o',hi,_⟩)
    ·have:=hZ _ hz;have:=ho _ hin;omega
    ·rw[hρ]at hi;cases hi
   ·rw[he,hu];exact RepD.keep hk hr
theorem RU.dat_rep(hZ: ∀ad,Z ad→ad.block<w.heap.size)(ho: ∀ad,o.has ad→w.heap.size≤ad.block)
  (hh:Heap (BN k bs o) w' Z (match bs with|[]=>[]|b::_=>[(k,b)])) (hb:bs.length≤1) {x:RU} {v:Value} (hx: ∀b∈x.rows,b∈bs)
  (h:RepU (BN k bs o) w' Z (x.imp k) v) (ρ:Aq) (hρ: ∀i,ρ i=none):RepU ρ w' Z (x.dat.imp k) v:=by
 cases x with
 |c x=>exact RC.dat_rep hZ ho hh hb hx h ρ hρ
 |agg cs=>
  obtain⟨vs,h1,h2,h3⟩:=h
  refine⟨vs,h1,by simpa using h2,fun j y u hy hu=> ?_⟩
  simp only[Bw,jze]at hy;obtain⟨z,⟨z',hz',rfl⟩,rfl⟩:=hy;exact RC.dat_rep hZ ho hh hb (fun b hbm=>hx b (List.mem_flatMap.2 ⟨z',Bv hz',hbm⟩)) (h3 j _ u (by simp[hz']) hu) ρ hρ
theorem R.dat_rep(hZ: ∀ad,Z ad→ad.block<w.heap.size){r:R}{v:Value}(h:Jn w w' Z r v):Jn w w' Z r.dat v:=by
 obtain⟨hb,o,ho,hr⟩:=h
 refine⟨by rw[R.dat_rows];simp,o,ho,fun k=> ?_⟩
 obtain⟨h1,hh⟩:=hr k
 rw[R.dat_rows]
 have hρ: ∀i,BN k [] o i=none:=fun i=>rfl
 refine⟨?_,⟨⟨fun j o hj=>by(rw[hρ]at hj;cases hj),fun j j' o o' hj=>by(rw[hρ]at hj;cases hj),fun j o hj=>by(rw[hρ]at hj;cases hj)⟩,fun i b hb=>by cases hb⟩⟩
 cases r with
 |u x=>exact RU.dat_rep hZ ho hh hb (fun b h=>h) h1 _ hρ
 |tup cs=>
  obtain⟨vs,e1,h2,h3⟩:=h1
  refine⟨vs,e1,by simpa [R.dat,R.imp]using h2,fun j y u hy hu=> ?_⟩
  simp only[Bw,jze]at hy;obtain⟨z,⟨z',hz',rfl⟩,rfl⟩:=hy;exact RU.dat_rep hZ ho hh hb (fun b hbm=>List.mem_flatMap.2 ⟨z',Bv hz',hbm⟩) (h3 j _ u (by simp[hz']) hu) _ hρ
theorem CallsF.dat{P:Program}{f:FuncId}{xs:List A}{r:R}(h:CallsF P f xs r):CallsF P f xs r.dat:=
 ⟨h.1,fun w Z vals hZ hv=>(h.2 w Z vals hZ hv).mono fun e w' ⟨v,h1,h2,h3⟩=>⟨v,h1,h2,R.dat_rep hZ h3⟩⟩
end
end Go.Va
namespace Go.Va
open Int (natCast_add natCast_mul natCast_emod natCast_ediv natCast_pow)
open Go.Proofs
section
variable {α:Type} {k:Nat} {e:α→List D} (he: ∀x,(e x).length=k)
include he
theorem EO(l:List α):(l.flatMap e).length=l.length*k:=by
 induction l with
 |nil=>simp
 |cons a l ih=>rw[List.flatMap_cons,List.length_append,he,ih,List.length_cons,Nat.add_mul,Nat.one_mul,Nat.add_comm]
theorem DZ(l:List α)(i:Nat):(l.flatMap e).drop (i*k)=(l.drop i).flatMap e:=by
 induction l generalizing i with
 |nil=>simp
 |cons a l ih=>
  cases i with
  |zero=>simp
  |succ i=>
   rw[List.flatMap_cons,List.drop_succ_cons,List.drop_append,B7 (by rw[he,Nat.add_mul];omega),he,List.nil_append,Nat.add_mul,Nat.one_mul,Nat.add_sub_cancel,ih]
theorem JC(l:List α)(i:Nat):(l.flatMap e).take (i*k)=(l.take i).flatMap e:=by
 induction l generalizing i with
 |nil=>simp
 |cons a l ih=>
  cases i with
  |zero=>simp
  |succ i=>
   rw[List.flatMap_cons,List.take_succ_cons,List.flatMap_cons,List.take_append,AI (by rw[he,Nat.add_mul];omega),he,Nat.add_mul,Nat.one_mul,Nat.add_sub_cancel,ih]
theorem G1(l:List α)(i:Nat)(h:i<l.length):((l.flatMap e).drop (i*k)).take k=e l[i]:=by
 rw[DZ he,AD h,List.flatMap_cons,List.take_append,AI (by rw[he];omega),he,Nat.sub_self]
 simp
end
def BJ(s:Int×Int):List D:=[i64 s.1,i64 s.2]
theorem TF(s:Int×Int):(BJ s).length=2:=rfl
theorem Fct.ds_len(f:Fct):f.ds.length=5:=rfl
@[simp high]theorem jeF(l:List (Int×Int)):(l.flatMap BJ).length=l.length*2:=EO TF l
@[simp high]theorem I3(l:List Fct):(l.flatMap Fct.ds).length=l.length*5:=EO Fct.ds_len l
def Du(l:List (Int×Int)):D:= .slice l.length (l.flatMap BJ)
def fctsD(l:List Fct):D:= .slice l.length (l.flatMap Fct.ds)
@[simp]theorem jis(l:List (Int×Int)):lenC (.d (Du l))=some l.length:=rfl
@[simp]theorem jiF(l:List Fct):lenC (.d (fctsD l))=some l.length:=rfl
@[simp]theorem jih(h:List (Nat×Blk))(i:Int)(l:List (Int×Int)):idxSl h 2 i (.d (Du l))=if 0≤i∧i<l.length then some (.d (.ref ((l.drop i.toNat).flatMap BJ))) else none:=by
 unfold Du idxSl;simp only[jeF,and_true,DZ TF]
@[simp]theorem jil(h:List (Nat×Blk))(i:Int)(l:List Fct):idxSl h 5 i (.d (fctsD l))=if 0≤i∧i<l.length then some (.d (.ref ((l.drop i.toNat).flatMap Fct.ds))) else none:=by
 unfold fctsD idxSl;simp only[I3,and_true,DZ Fct.ds_len]
@[simp]theorem ji1(l:List (Int×Int)):D.flat (Du l)=false:=rfl
@[simp]theorem jiO(l:List Fct):D.flat (fctsD l)=false:=rfl
theorem RW{l:List (Int×Int)}{i:Nat}(h:i<l.length):(l.drop i).flatMap BJ= .int .i64 l[i].1:: .int .i64 l[i].2::(l.drop (i+1)).flatMap BJ:=by
 rw[AD h];rfl
theorem DO{l:List Fct}{i:Nat}(h:i<l.length):(l.drop i).flatMap Fct.ds= .int .i64 l[i].kind::intsD l[i].args:: .bool l[i].neg::Ab l[i].abs::Ab l[i].den::(l.drop (i+1)).flatMap Fct.ds:=by
 rw[AD h];rfl
def lo(a b:Int):Int:=if b<a then b else a
def hi(a b:Int):Int:=if a<b then b else a
def Ah(a b:Int):Int×Int:=(lo a b,hi a b)
theorem We(a b:Int):CallsF Tryz.prog 182 [.c (.int .i64 a),.c (.int .i64 b)] (.u (.agg [.d (.int .i64 (lo a b)),.d (.int .i64 (hi a b))])):=by
 refine Ae (T:=tb) Ad mixed Tryz.func182 rfl (by decide) (Ac rfl) rfl ?_;unfold St.init
 simp -implicitDefEqProofs[jJ,-natCast_add,-natCast_mul,-natCast_emod,-natCast_ediv,-natCast_pow,lo,hi]
theorem Eg(a b:Int):CallsF Tryz.prog 117 [.c (.int .i64 a),.c (.int .i64 b)] (.u (.agg [.d (.int .i64 (lo a b)),.d (.int .i64 (hi a b))])):=by
 refine Ae (T:=tb) Ad mixed Tryz.func117 rfl (by decide) (Ac rfl) rfl ?_;unfold St.init
 simp -implicitDefEqProofs[jJ,-natCast_add,-natCast_mul,-natCast_emod,-natCast_ediv,-natCast_pow,lo,hi]
def AW:List Int→List (Int×Int)
 |a::b::l=>Ah a b::AW l
 |_=>[]
theorem Js: ∀l:List Int,(AW l).length=l.length/2
 |[]=>rfl
 |[a]=>by simp[AW]
 |a::b::l=>by
  simp only[AW,List.length_cons,Js l];omega
theorem QI: ∀(l:List Int) (m:Nat) (h:2*m+1<l.length),(AW l)[m]'(by rw[Js];omega)=Ah (l[2*m]'(by omega)) l[2*m+1]
 |a::b::l,0,_=>rfl
 |a::b::l,m+1,h=>by
  have:=QI l m (by simp at h;omega)
  simp only[AW,List.getElem_cons_succ,this];rfl
theorem Qq{l:List Int}{m:Nat}(h:2*m+1<l.length):((AW l).take (m+1)).flatMap BJ=((AW l).take m).flatMap BJ++[.int .i64 (lo (l[2*m]'(by omega)) l[2*m+1]),.int .i64 (hi (l[2*m]'(by omega)) l[2*m+1])]:=by
 rw[AQ (by rw[Js];omega),List.flatMap_append,QI l m h]
 rfl
theorem Qn(f:Fct)(hl:f.args.length≤1099511627776):CallsF Tryz.prog 102 [.agg f.ds] (.u (.c (.own 2 (AW f.args).length ((AW f.args).flatMap BJ)))):=by
 refine Ae (T:=tb) Ad mixed Tryz.func102 rfl (by decide) (Ac rfl) rfl ?_;unfold St.init
 obtain⟨kind,args,neg,abs,den⟩:=f
 simp only at hl;simp -implicitDefEqProofs[jJ,-natCast_add,-natCast_mul,-natCast_emod,-natCast_ediv,-natCast_pow];refine BA [(3,27)] (fun x:Nat×Nat×List D=>⟨[(4,vI .i64 x.1),(3,vC (.sl 3 0 x.2.1)),(1,vC (.ptr 1 0))],[(3,.row 2 x.2.2 true),(1,.box [.d (.int .i64 kind),.d (intsD args),.d (.bool neg),.d (Ab abs),.d (Ab den)])]⟩) (fun x=>x.1=2*x.2.1∧x.2.1≤(AW args).length∧x.2.2=((AW args).take x.2.1).flatMap BJ) (fun x=>(AW args).length - x.2.1) (0,0,[]) (by simp) (by simp) ?_
 rintro⟨i,m,cs⟩ ⟨hm2,hm,hc⟩
 simp only at hm2 hm hc;subst hc;have hlen:=Js args;by_cases h:i+1<args.length
 ·have e:=Qq (l:=args) (m:=m) (by omega)
  have e1:args[2*m]'(by omega)=args[i]:=by simp only[hm2]
  have e2:args[2*m+1]'(by omega)=args[i+1]:=by simp only[hm2]
  rw[e1,e2]at e
  have hb:i≤9223372036854775806:=by omega
  have h0:i<args.length:=by omega
  simp -implicitDefEqProofs[jJ,-natCast_add,-natCast_mul,-natCast_emod,-natCast_ediv,-natCast_pow,h,hb];refine Af (Aj [0,0,2,0,14,30,0,64,0,256,960,1984,4094,8190,16383,32767]) [.any [] [26] [⟨0,[3],[26],[26],[]⟩,⟨0,[1],[],[26],[]⟩,⟨0,[14],[],[26],[]⟩,⟨0,[4],[],[26],[]⟩,⟨0,[15,16],[],[26],[]⟩,⟨0,[17],[],[26],[]⟩,⟨0,[1],[],[26],[]⟩,⟨0,[19],[],[26],[]⟩,⟨0,[4],[],[26],[]⟩,⟨0,[21],[],[26],[]⟩,⟨0,[20,22],[],[26],[]⟩,⟨0,[23],[],[26],[]⟩,⟨0,[18,24],[],[26],[]⟩,⟨1,[25],[],[],[]⟩],.one,.one] (by rfl) ?_
  simp -implicitDefEqProofs[jJ,-natCast_add,-natCast_mul,-natCast_emod,-natCast_ediv,-natCast_pow,h,h0,hb,i64];refine Al (We args[i] args[i+1]) ?_;simp -implicitDefEqProofs[jJ,-natCast_add,-natCast_mul,-natCast_emod,-natCast_ediv,-natCast_pow];rw[AU hm];exact⟨rfl,⟨by omega,by omega⟩,by omega,i+2,m+1,_,⟨⟨rfl,rfl⟩,rfl⟩,⟨by omega,by omega,e.symm⟩,by omega⟩
 ·have hb:i≤9223372036854775806:=by omega
  have e:m=(AW args).length:=by omega
  subst e;simp -implicitDefEqProofs[jJ,-natCast_add,-natCast_mul,-natCast_emod,-natCast_ediv,-natCast_pow,h,hb]
def D6(l:List (Int×Int)):List Int:=l.flatMap fun s=>[s.1,s.2]
theorem OD(l:List (Int×Int)):(D6 l).length=l.length*2:=by
 induction l with
 |nil=>rfl
 |cons a l ih=>simp only[D6,List.flatMap_cons,List.length_append,List.length_cons,List.length_nil]at ih ⊢;omega
theorem Gy(a b:Int):CallsF Tryz.prog 103 [.agg [.int .i64 a,.int .i64 b]] (.u (.c (.d (.bool (decide (a=b)))))):=by
 refine Ae (T:=tb) Ad mixed Tryz.func103 rfl (by decide) (Ac rfl) rfl ?_;unfold St.init
 simp -implicitDefEqProofs[jJ,-natCast_add,-natCast_mul,-natCast_emod,-natCast_ediv,-natCast_pow]
theorem R3(a b p:Int):CallsF Tryz.prog 221 [.agg [.int .i64 a,.int .i64 b],.c (.int .i64 p)] (.u (.c (.d (.bool (decide (a=p)||decide (b=p)))))):=by
 refine Ae (T:=tb) Ad mixed Tryz.func221 rfl (by decide) (Ac rfl) rfl ?_;unfold St.init
 by_cases h:a=p<;>simp -implicitDefEqProofs[jJ,-natCast_add,-natCast_mul,-natCast_emod,-natCast_ediv,-natCast_pow,h]
def Dg(a b p:Int):Int:=a+b - p
theorem Vc(a b p:Int)(ha:0≤a∧a<64)(hb:0≤b∧b<64)(hp:0≤p∧p<64):CallsF Tryz.prog 222 [.agg [.int .i64 a,.int .i64 b],.c (.int .i64 p)] (.u (.c (.d (.int .i64 (Dg a b p))))):=by
 refine Ae (T:=tb) Ad mixed Tryz.func222 rfl (by decide) (Ac rfl) rfl ?_;unfold St.init
 simp -implicitDefEqProofs[jJ,-natCast_add,-natCast_mul,-natCast_emod,-natCast_ediv,-natCast_pow,Dg];omega
def AC(p q:Int×Int):Int:=Bm [Az p.1 q.1,Az p.2 q.2]
theorem HS(a b c d:Int):CallsF Tryz.prog 223 [.agg [.int .i64 a,.int .i64 b],.agg [.int .i64 c,.int .i64 d]] (.u (.c (.d (.int .i64 (AC (a,b) (c,d)))))):=by
 refine Ae (T:=tb) Ad mixed Tryz.func223 rfl (by decide) (Ac rfl) rfl ?_;unfold St.init
 have k:CallsF Tryz.prog 71 [.c (.slice 2 [.int .i64 (Az a c),.int .i64 (Az b d)])] _:=K2 [Az a c,Az b d] (by simp)
 simp -implicitDefEqProofs[jJ,-natCast_add,-natCast_mul,-natCast_emod,-natCast_ediv,-natCast_pow];refine Af (Aj [0,1,0,4,15,0,32,0,128,511,1023,2047,4095]) [.any [] [] (Ao [[2],[5],[3],[7],[6,8],[2],[10],[3],[12]]),.one,.one,.one,.one] (by rfl) ?_
 simp -implicitDefEqProofs[jJ,-natCast_add,-natCast_mul,-natCast_emod,-natCast_ediv,-natCast_pow];refine Al (II a c) ?_;simp -implicitDefEqProofs[jJ,-natCast_add,-natCast_mul,-natCast_emod,-natCast_ediv,-natCast_pow];refine Aa (II b d) ?_;simp -implicitDefEqProofs[jJ,-natCast_add,-natCast_mul,-natCast_emod,-natCast_ediv,-natCast_pow];refine Aa k ?_;simp -implicitDefEqProofs[jJ,-natCast_add,-natCast_mul,-natCast_emod,-natCast_ediv,-natCast_pow,AC]
theorem Qo(kind:Int)(neg:Bool)(abs den:List Nat)(l:List (Int×Int))(hl:l.length≤1099511627776):CallsF Tryz.prog 224 [.c (.int .i64 kind),.agg [.bool neg,Ab abs,Ab den],.c (Du l)]
  (.u (.agg [.d (.int .i64 kind),.d (intsD (D6 l)),.d (.bool neg),.d (Ab abs),.d (Ab den)])):=by
 refine Ae (T:=tb) Ad mixed Tryz.func224 rfl (by decide) (Ac rfl) rfl ?_;unfold St.init
 simp -implicitDefEqProofs[jJ,-natCast_add,-natCast_mul,-natCast_emod,-natCast_ediv,-natCast_pow];refine Av (fun i:Nat=>⟨[(15,vI .i64 i),(14,vI .i64 l.length),(13,vC (.d (Du l))),(7,vC (.ptr 7 0)),(6,vC (.ptr 6 0))],match i with
  |0=>[(7,.box [.d (.int .i64 kind),.nl,.d (.bool neg),.d (Ab abs),.d (Ab den)]),(6,.box [.d (.int .i64 0),.nl,.d (.bool false),.nl,.nl])]
  |n+1=>[(7,.box [.d (.int .i64 kind),.sl 26 0 ((n+1)*2),.d (.bool neg),.d (Ab abs),.d (Ab den)]),(6,.box [.d (.int .i64 0),.nl,.d (.bool false),.nl,.nl]),(26,.row 1 ((D6 (l.take (n+1))).map i64) true)]⟩)
  (fun i=>i≤l.length) (fun i=>l.length - i) 0 (by simp) (by omega) ?_
 rintro i hi
 by_cases h:i<l.length
 ·have e:D6 (l.take (i+1))=D6 (l.take i)++[l[i].1,l[i].2]:=by
   rw[AQ h];unfold D6;rw[List.flatMap_append];rfl
  have e2:=RW h;have e3:=OD (l.take i);rw[AG,AU (by omega)]at e3
  cases i with
  |zero=>
   have e4:(D6 (l.take 1)).map i64=[.int .i64 l[0].1,.int .i64 l[0].2]:=by rw[e];rfl
   rw[List.drop_zero]at e2
   simp -implicitDefEqProofs[jJ,-natCast_add,-natCast_mul,-natCast_emod,-natCast_ediv,-natCast_pow,h,e2,e4];exact⟨1,⟨rfl,by simp[An,lk,e4]⟩,by omega,by omega⟩
  |succ n=>
   simp -implicitDefEqProofs[jJ,-natCast_add,-natCast_mul,-natCast_emod,-natCast_ediv,-natCast_pow,h,e2,e,e3];refine⟨by omega,by omega,n+2,⟨rfl,?_⟩,by omega,by omega⟩
   have e5:(n+1)*2+2=(n+1+1)*2:=by omega
   simp[An,lk,e,e5]
   exact⟨rfl,rfl⟩
 ·have hi2:i=l.length:=by omega
  cases i with
  |zero=>
   have:l=[]:=jzv.1 hi2.symm
   subst this;simp -implicitDefEqProofs[jJ,-natCast_add,-natCast_mul,-natCast_emod,-natCast_ediv,-natCast_pow];rfl
  |succ n=>
   have e3:=OD l;simp -implicitDefEqProofs[jJ,-natCast_add,-natCast_mul,-natCast_emod,-natCast_ediv,-natCast_pow,h];rw[hi2,AZ,←e3,AI (by simp)]
   refine⟨AA _,rfl⟩
def bs(l:List UInt8):ByteArray:=⟨l.toArray⟩
structure Pat where
 kind:Int
 letters:List UInt8
 n:Int
def Pat.ds(p:Pat):List D:=[.int .i64 p.kind,.str (bs p.letters),.int .i64 p.n]
theorem Pat.ds_len(p:Pat):p.ds.length=3:=rfl
def B9(l:List Pat):D:= .slice l.length (l.flatMap Pat.ds)
structure Rul where
 name:List UInt8
 prem:List Pat
 concl:List Pat
 guards:List Pat
 count:Int
 derive:D
def Rul.ds(r:Rul):List D:=[.str (bs r.name),B9 r.prem,B9 r.concl,B9 r.guards,.int .i64 r.count,r.derive]
def Rul.zero:Rul:=⟨[],[],[],[],0,.nilFn⟩
theorem Ol(n:Nat)(cs:List D):CallsF Tryz.prog 138 [.c (.slice n cs)] (.u (.c (.d (.slice n cs)))):=by
 refine Ae (T:=tb) Ad mixed Tryz.func138 rfl (by decide) (Ac rfl) rfl ?_;unfold St.init
 simp -implicitDefEqProofs[jJ,-natCast_add,-natCast_mul]
def DC(s:List UInt8):Pat:=⟨2,s,0⟩
def Do(s:List UInt8):Pat:=⟨3,s,0⟩
def CT(s:List UInt8):Pat:=⟨4,s,0⟩
def Iu(s:List UInt8):Pat:=⟨1,s,0⟩
def Dk(s:List UInt8):Pat:=⟨5,s,0⟩
def Fs(s:List UInt8):Pat:=⟨6,s,0⟩
def C2(s:List UInt8):Pat:=⟨7,s,0⟩
def LS(s:List UInt8):Pat:=⟨8,s,0⟩
def I6(s:List UInt8)(n:Int):Pat:=⟨9,s,n⟩
def DA(s:List UInt8):Pat:=⟨1,s,0⟩
def G3(s:List UInt8):Pat:=⟨2,s,0⟩
theorem Nx(s:ByteArray):CallsF Tryz.prog 139 [.c (.str s)] (.u (.agg [.d (.int .i64 2),.d (.str s),.d (.int .i64 0)])):=by
 refine Ae (T:=tb) Ad mixed Tryz.func139 rfl (by decide) (Ac rfl) rfl ?_;unfold St.init
 simp -implicitDefEqProofs[jJ,-natCast_add,-natCast_mul]
theorem N3(s:ByteArray):CallsF Tryz.prog 141 [.c (.str s)] (.u (.agg [.d (.int .i64 3),.d (.str s),.d (.int .i64 0)])):=by
 refine Ae (T:=tb) Ad mixed Tryz.func141 rfl (by decide) (Ac rfl) rfl ?_;unfold St.init
 simp -implicitDefEqProofs[jJ,-natCast_add,-natCast_mul]
theorem NN(s:ByteArray):CallsF Tryz.prog 145 [.c (.str s)] (.u (.agg [.d (.int .i64 4),.d (.str s),.d (.int .i64 0)])):=by
 refine Ae (T:=tb) Ad mixed Tryz.func145 rfl (by decide) (Ac rfl) rfl ?_;unfold St.init
 simp -implicitDefEqProofs[jJ,-natCast_add,-natCast_mul]
theorem NY(s:ByteArray):CallsF Tryz.prog 144 [.c (.str s)] (.u (.agg [.d (.int .i64 1),.d (.str s),.d (.int .i64 0)])):=by
 refine Ae (T:=tb) Ad mixed Tryz.func144 rfl (by decide) (Ac rfl) rfl ?_;unfold St.init
 simp -implicitDefEqProofs[jJ,-natCast_add,-natCast_mul]
theorem Nq(s:ByteArray):CallsF Tryz.prog 143 [.c (.str s)] (.u (.agg [.d (.int .i64 5),.d (.str s),.d (.int .i64 0)])):=by
 refine Ae (T:=tb) Ad mixed Tryz.func143 rfl (by decide) (Ac rfl) rfl ?_;unfold St.init
 simp -implicitDefEqProofs[jJ,-natCast_add,-natCast_mul]
theorem Np(s:ByteArray):CallsF Tryz.prog 149 [.c (.str s)] (.u (.agg [.d (.int .i64 6),.d (.str s),.d (.int .i64 0)])):=by
 refine Ae (T:=tb) Ad mixed Tryz.func149 rfl (by decide) (Ac rfl) rfl ?_;unfold St.init
 simp -implicitDefEqProofs[jJ,-natCast_add,-natCast_mul]
theorem O8(s:ByteArray):CallsF Tryz.prog 151 [.c (.str s)] (.u (.agg [.d (.int .i64 7),.d (.str s),.d (.int .i64 0)])):=by
 refine Ae (T:=tb) Ad mixed Tryz.func151 rfl (by decide) (Ac rfl) rfl ?_;unfold St.init
 simp -implicitDefEqProofs[jJ,-natCast_add,-natCast_mul]
theorem Oz(s:ByteArray):CallsF Tryz.prog 147 [.c (.str s)] (.u (.agg [.d (.int .i64 8),.d (.str s),.d (.int .i64 0)])):=by
 refine Ae (T:=tb) Ad mixed Tryz.func147 rfl (by decide) (Ac rfl) rfl ?_;unfold St.init
 simp -implicitDefEqProofs[jJ,-natCast_add,-natCast_mul]
theorem MA(s:ByteArray)(n:Int):CallsF Tryz.prog 146 [.c (.str s),.c (.int .i64 n)] (.u (.agg [.d (.int .i64 9),.d (.str s),.d (.int .i64 n)])):=by
 refine Ae (T:=tb) Ad mixed Tryz.func146 rfl (by decide) (Ac rfl) rfl ?_;unfold St.init
 simp -implicitDefEqProofs[jJ,-natCast_add,-natCast_mul]
theorem Nl(s:ByteArray):CallsF Tryz.prog 140 [.c (.str s)] (.u (.agg [.d (.int .i64 1),.d (.str s),.d (.int .i64 0)])):=by
 refine Ae (T:=tb) Ad mixed Tryz.func140 rfl (by decide) (Ac rfl) rfl ?_;unfold St.init
 simp -implicitDefEqProofs[jJ,-natCast_add,-natCast_mul]
theorem O6(s:ByteArray):CallsF Tryz.prog 150 [.c (.str s)] (.u (.agg [.d (.int .i64 2),.d (.str s),.d (.int .i64 0)])):=by
 refine Ae (T:=tb) Ad mixed Tryz.func150 rfl (by decide) (Ac rfl) rfl ?_;unfold St.init
 simp -implicitDefEqProofs[jJ,-natCast_add,-natCast_mul]
end Go.Va
