/- a part of the proof -/
import Derived.Test.YtkfdniccmcolgaaGreatQar
import Derived.Lib.RowBridge
import Derived.Shelf.Sort.Plain
import Derived.Test.YtkfdniccmcolgaaGreatQaq
set_option linter.all false
set_option maxHeartbeats 4000000
set_option maxRecDepth 10000
namespace Go.Va
open Go.Proofs Go.Shelf Go.RowKit Go.Lib Go.Sort
theorem Ext.drewN(w:World)(q:Nat):Ext w (w.drewN q):=⟨⟨rfl,rfl,rfl,AA _,fun _ _=>rfl⟩,Nat.le_add_right _ _⟩
theorem Ext.grow(w:World)(os:Array Obj):Ext w (Go.Sort.grow w os):=
 ⟨⟨rfl,rfl,rfl,by simp[Go.Sort.grow],fun k hk=>by simp[Go.Sort.grow,Array.getElem?_append,hk]⟩,AA _⟩
theorem Ext.asGrow{w w':World}(h:Ext w w'): ∃q os,w'=Go.Sort.grow (w.drewN q) os:=by
 refine⟨w'.drawn - w.drawn,w'.heap.extract w.heap.size w'.heap.size,?_⟩
 have hd:=h.drawn;have ho:=h.os;have ht:=h.tape;have hu:=h.output;have hs:=h.size;have hb:=h.block;have hh:w'.heap=w.heap++w'.heap.extract w.heap.size w'.heap.size:=by
  apply Array.ext_getElem?
  intro k;by_cases hk:k<w.heap.size
  ·rw[hb k hk,Array.getElem?_append_left hk]
  ·rw[Array.getElem?_append_right (by omega),Array.getElem?_extract]
   by_cases hk2:k<w'.heap.size
   ·rw[if_pos (by omega),show w.heap.size+(k - w.heap.size)=k by omega]
   ·rw[if_neg (by omega),Array.getElem?_eq_none (by omega)]
 obtain⟨heap,tape,drawn,os,output⟩:=w
 obtain⟨heap',tape',drawn',os',output'⟩:=w'
 simp only at hd ho ht hu hs hb hh;simp only[Go.Sort.grow,World.drewN];subst ho ht hu;rw[←hh,show drawn+(drawn' - drawn)=drawn' by omega]
theorem M0{ρ:Aq}{w:World}{Z:Addr→Prop}{h:List (Nat×Blk)}(hZ: ∀ad,Z ad→ad.block<w.heap.size)(hh:Heap ρ w Z h)(hcz: ∀ad,Cells ρ ad→ ¬Z ad)
  {i:Nat} {o:Own} (hi:ρ i=some o) (hn:o.gone=false) {sz:Nat} {cs cs':List D} {app:Bool} (hb:RepB ρ w Z o (.row sz cs app)) {vs:List Value} (hl:vs.length=cs.length)
  (hr:RepL (RepD w (Ag ρ Z)) cs' vs) (q:Nat) (os:Array Obj):
  Fr (Cells ρ) w (Go.Sort.grow ((w.drewN q).setCells o.g o.o vs) os)∧Heap ρ (Go.Sort.grow ((w.drewN q).setCells o.g o.o vs) os) Z ((i,.row sz cs' app)::rm i h):=by
 have hrel:Rel (Cells ρ) Z w ρ ⟨[],h⟩ { tmps:= #[],defers:=[] } w:=
  {fr:=⟨rfl,AA _,rfl,rfl,AA _,fun a v _ h=>h,fun _ _=>rfl,fun _ _ _=>rfl⟩
   heap:=hh
   mine:=fun j o' ad hj ho=> .inl ⟨j,o',hj,ho⟩
   out:=hZ
   mz:=hcz
   tmps:=fun t v hv=>by cases hv
   defers:=rfl }
 have h1:=hrel.ext (Ext.drewN w q);obtain⟨hs,happ,hlen,hnil,hc⟩:=hb;have hfit:0+vs.length≤o.room*o.sz:=by rw[hs,Nat.zero_add,hl];exact hlen
 have h2:=h1.write hi hn (off:=0) (vs:=vs) (by simpa using hfit) (b:= .row sz cs' app) (fun hk=>by
  refine⟨hs,happ,by rw[hr.1,hl];exact hlen,hnil,fun j x hx=> ?_⟩
  have hj:j<vs.length:=by rw[←hr.1];exact(jzg.1 hx).1
  have hin:=World.cell?_setCells_in o.g vs o.o (w.drewN q) (fun p hp=>by
   obtain⟨v,hv,_⟩:=hc p (cs[p]'(by omega)) (Ai (by omega))
   show(w.cell? _).isSome=true
   rw[hv];rfl) j hj
  refine⟨vs[j],by simpa [Own.at]using hin,?_⟩
  exact RepD.keep (by simpa using hk) (RepD.keep (Keep.ext (Ext.drewN w q) _) (hr.2 j x _ hx (Ai hj))))
 have h3:=h2.ext (Ext.grow _ os);exact⟨by simpa using h3.fr,by simpa [St.blk]using h3.heap⟩
theorem Un{ρ:Aq}{w:World}{Z:Addr→Prop}{i n:Nat}{v:Value}(h:RepC ρ w Z (.sl i 0 n) v)(hn:0<n): ∃o c,ρ i=some o∧o.nil=false∧n≤o.room∧v= .slice (some ⟨o.g,o.o,none⟩) n c:=by
 obtain⟨o,h1,h2,h3⟩:=h
 rcases h3 with⟨_,_,_,h4⟩|⟨h4,a,c,rfl,h5,h6,h7,h8⟩
 ·omega
 ·rcases h7 with h7|h7
  ·omega
  ·refine⟨o,c,h1,h4,by omega,?_⟩
   rw[h7]
   simp[Own.at]
def BE(l:List Int):List Int:=l.mergeSort fun x y=>decide (x≤y)
theorem Hg(l:List Int):(BE l).length=l.length:=(List.mergeSort_perm _ _).length_eq
theorem Mj{l m:List Int}(hp:m.Perm l)(hs:m.Pairwise (· ≤ ·)):m=BE l:=by
 have h:=List.pairwise_mergeSort (le:=fun x y:Int=>decide (x≤y)) (fun a b c h1 h2=>by simp at*;omega) (fun a b=>by simp;omega) l
 refine List.Perm.eq_of_pairwise (le:=fun a b:Int=>a≤b) (fun a b _ _ h1 h2=>by omega) hs ?_ (hp.trans (List.mergeSort_perm _ _).symm)
 exact h.imp fun h=>by simpa using h
theorem QM{w:World}{Z:Addr→Prop}(l:List Int):RepL (RepD w Z) (l.map i64) (l.map (Value.int .i64)):=by
 refine⟨by simp,fun j x v hx hv=> ?_⟩
 simp only[Bw,jze]at hx hv;obtain⟨a,ha,rfl⟩:=hx;obtain⟨b,hb,rfl⟩:=hv;rw[ha]at hb;cases hb;exact .int _ _
theorem Uk(i:Nat)(l:List Int)(app:Bool)(h0:l≠[])(hl:l.length≤1099511627776):
  EQ Tryz.prog 187 [.c (.sl i 0 l.length)] [(i,.row 1 (l.map i64) app)] [(i,.row 1 ((BE l).map i64) app)] (.tup []):=by
 have hpos:0<l.length:=List.length_pos_iff.2 h0;refine⟨⟨_,Tryz.func187,rfl,by decide⟩,rfl,fun w Z ρ vals hZ hh hcz hρ hv=> ?_⟩
 obtain⟨v,rfl⟩: ∃v,vals=[v]:=by
  have:=hv.1
  match vals,this with
  |[v],_=>exact⟨v,rfl⟩
 obtain⟨o,c,ho,hnil,hroom,rfl⟩:=Un (w:=w) (Z:=Z) (hv.2 0 _ _ rfl rfl) hpos
 obtain⟨o',ho',hb⟩:=hh.rep i (.row 1 (l.map i64) app) (by simp[lk])
 rw[ho]at ho'
 cases ho'
 have hb':=hb;obtain⟨hsz,happ,hlen,⟨hn1,hn2⟩,hc⟩:=hb';have hgone:o.gone=false:=by rw[hn2];exact hnil
 have hval: ∀j (hj:j<l.length),w.cell? ⟨o.g,o.o+j,none⟩=some (.int .i64 l[j]):=fun j hj=>by
  obtain⟨v,h1,h2⟩:=hc j (i64 l[j]) (by simp[hj])
  cases h2;exact h1
 have hH:Holds (Value.int .i64) w o.g o.o l.toArray:=fun j hj=>by
  have hj':j<l.length:=by simpa using hj
  refine⟨?_,(hh.owns.cells i o ho hgone j (by rw[hsz];omega)).2⟩
  rw[hval j hj']
  simp[hj']
 have hblk:o.g<w.heap.size:=World.block_lt_of_cell? w _ (hval 0 hpos);have hcon:=Any.slices_Sort_int Tryz.laysSI o.g o.o c l w hH hblk (by omega)
 refine hcon.mono fun e w' ⟨he,n,os,hw⟩=> ?_
 rw[putRow_eq_setCells (Value.int .i64) w o.g o.o l.toArray _ n hH (by simp[List.length_mergeSort])]at hw
 have ht:=M0 hZ hh hcz ho hgone hb (vs:=(BE l).map (Value.int .i64)) (cs':=(BE l).map i64) (by simp[Hg]) (QM _) n os
 subst hw;have ht2:=ht.2;simp only[rm,if_true]at ht2;refine⟨_,he,ht.1,ht2,[],rfl,by simp[RepL],fun j x v hx=>by simp at hx⟩
structure Fct.Rt (f:Fct):Prop where
 ok:AK f=true
 mild:f.Mild
theorem Wm{a:List Nat}(ha:Ok a)(h:lastOk a=true):a=limbs (val a):=by
 rw[←HT a ha]
 rcases Nat.eq_zero_or_pos a.length with h0|h0
 ·have:a=[]:=jzv.1 h0
  subst this;rfl
 ·obtain⟨n,hn⟩: ∃n,a.length=n+1:=⟨a.length - 1,by omega⟩
  unfold lastOk at h;rw[List.getLast?_eq_getElem?,hn]at h;simp only[Nat.add_sub_cancel,decide_eq_true_eq]at h;have:Bk a a.length=a.length:=by
   rw[hn]
   unfold Bk;rw[if_neg];rw[Ai (by omega)]at h
   rw[Ar,Ai (by omega)]
   simpa using h
  rw[this,AZ]
theorem C7{neg:Bool}{a b:List Nat}(h:BR neg a b=true)(ha:Ok a)(hb:Ok b):
  a=limbs (val a)∧b=limbs (val b)∧val b≠0∧Nat.gcd (val a) (val b)=1∧(neg=true→val a≠0):=by
 unfold BR at h;simp only[Ax,Bool.not_eq_true',decide_eq_true_eq,Bool.and_eq_false_iff,decide_eq_false_iff_not]at h;obtain⟨⟨⟨⟨h1,h2⟩,h3⟩,h4⟩,h5⟩:=h;have ea:=Wm ha h1;have eb:=Wm hb h4;refine⟨ea,eb,fun h0=>h3 ?_,h5,fun hn h0=> ?_⟩
 ·rw[eb,h0];rfl
 ·rcases h2 with h2|h2
  ·rw[hn]at h2;cases h2
  ·exact h2 (by rw[ea,h0];rfl)
theorem jc6{m d n e:Nat}(h1:Nat.gcd m d=1)(h2:Nat.gcd n e=1)(d0:d≠0)(e0:e≠0)(h:m*e=n*d):m=n∧d=e:=by
 have a1:m∣n:=Nat.Coprime.dvd_of_dvd_mul_right (k:=m) (n:=d) h1 ⟨e,h.symm⟩;have a2:n∣m:=Nat.Coprime.dvd_of_dvd_mul_right (k:=n) (n:=e) h2 ⟨d,h⟩;have a3:d∣e:=Nat.Coprime.dvd_of_dvd_mul_left (k:=d) (m:=m) (by rw[Nat.Coprime,Nat.gcd_comm];exact h1) ⟨n,by rw[h,Nat.mul_comm]⟩
 have a4:e∣d:=Nat.Coprime.dvd_of_dvd_mul_left (k:=e) (m:=n) (by rw[Nat.Coprime,Nat.gcd_comm];exact h2) ⟨m,by rw[←h,Nat.mul_comm]⟩
 exact⟨Nat.dvd_antisymm a1 a2,Nat.dvd_antisymm a3 a4⟩
theorem jhO{na nb:Bool}{m d n e:Nat}(h:toZ na m*(e:Int)=toZ nb n*(d:Int))(d0:d≠0)(e0:e≠0):m*e=n*d∧(m=0∨na=nb):=by
 have p:0≤(m:Int)*e:=by exact_mod_cast Nat.zero_le _
 have q:0≤(n:Int)*d:=by exact_mod_cast Nat.zero_le _
 have z:(m:Int)*e=0→m=0:=fun h=>by
  have:m*e=0:=by exact_mod_cast h
  rcases Nat.mul_eq_zero.1 this with h|h
  ·exact h
  ·exact absurd h e0
 unfold toZ at h;cases na<;>cases nb<;>simp only[if_true,if_false,Int.neg_mul,Bool.false_eq_true]at h
 ·exact⟨by exact_mod_cast h,.inr rfl⟩
 ·have h1:(m:Int)*e=n*d:=by omega
  exact⟨by exact_mod_cast h1,.inl (z (by omega))⟩
 ·have h1:(m:Int)*e=n*d:=by omega
  exact⟨by exact_mod_cast h1,.inl (z (by omega))⟩
 ·have h1:(m:Int)*e=n*d:=by omega
  exact⟨by exact_mod_cast h1,.inr rfl⟩
theorem Fct.Rt.parts{f:Fct}(h:f.Rt):arity f.kind≠0∧f.args.length=arity f.kind∧(∀a∈f.args,0≤a∧a<40)∧
  (if f.kind=9 then BR f.neg f.abs f.den=true else f.neg=false∧f.abs=[]∧f.den=[]):=by
 have:=h.ok
 unfold AK FW at this;simp only[decide_eq_true_eq]at this;by_cases h1:arity f.kind=0
 ·rw[if_pos h1]at this;cases this
 rw[if_neg h1]at this
 by_cases h2:f.args.length≠arity f.kind
 ·rw[if_pos h2]at this;cases this
 rw[if_neg h2]at this
 by_cases h3:f.args.any (fun a=>decide (a<0)||decide (40≤a))=true
 ·rw[if_pos h3]at this;cases this
 rw[if_neg h3]at this
 refine⟨h1,by omega,fun a ha=> ?_,?_⟩
 ·simp only[List.any_eq_true,not_exists,Bool.or_eq_true,decide_eq_true_eq,not_and,not_or]at h3;have:=h3 a ha;omega
 ·by_cases h9:f.kind=9
  ·rw[if_pos h9]at this ⊢
   by_cases h4:BR f.neg f.abs f.den=true
   ·exact h4
   ·rw[if_neg h4]at this;cases this
  ·rw[if_neg h9]at this ⊢
   by_cases h4:EY f.neg f.abs f.den=true
   ·unfold EY at h4;simp only[Ax,Bool.not_eq_true',decide_eq_true_eq]at h4;exact⟨h4.1.1,h4.1.2,h4.2⟩
   ·rw[if_neg h4]at this;cases this
theorem Fct.Rt.num{f:Fct}(h:f.Rt):f.Num:=fun h9=>by
 have:=h.parts.2.2.2
 rw[if_pos h9]at this
 exact(C7 this h.mild.oa h.mild.od).2.2.1
theorem Fct.ext'{f g:Fct}(h1:f.kind=g.kind)(h2:f.args=g.args)(h3:f.neg=g.neg)(h4:f.abs=g.abs)(h5:f.den=g.den):f=g:=by
 cases f;cases g;simp only at h1 h2 h3 h4 h5;subst h1 h2 h3 h4 h5;rfl
theorem Et{f g:Fct}(hf:f.Rt)(hg:g.Rt):Aw f g=0↔f=g:=by
 constructor
 ·intro h;rw[NB]at h;by_cases h0:cmpK f g=0
  ·obtain⟨k1,k2⟩:=cmpK_zero.1 h0
   rw[if_neg (by simp[h0])]at h
   have p:=hf.parts.2.2.2;have q:=hg.parts.2.2.2;by_cases h9:f.kind=9
   ·rw[if_pos h9]at h p
    rw[if_pos (by omega)]at q
    obtain⟨a1,a2,a3,a4,a5⟩:=C7 p hf.mild.oa hf.mild.od
    obtain⟨b1,b2,b3,b4,b5⟩:=C7 q hg.mild.oa hg.mild.od
    have hc:=(Fg _ _).1 h;obtain⟨c1,c2⟩:=jhO hc a3 b3;obtain⟨e1,e2⟩:=jc6 a4 b4 a3 b3 c1;refine Fct.ext' k1 k2 ?_ (by rw[a1,b1,e1]) (by rw[a2,b2,e2])
    rcases c2 with c2|c2
    ·cases hn:f.neg with
     |true=>exact absurd c2 (a5 hn)
     |false=>
      cases hn':g.neg with
      |true=>exact absurd (e1 ▸ c2) (b5 hn')
      |false=>rfl
    ·exact c2
   ·rw[if_neg h9]at p
    rw[if_neg (by omega)]at q
    exact Fct.ext' k1 k2 (by rw[p.1,q.1]) (by rw[p.2.1,q.2.1]) (by rw[p.2.2,q.2.2])
  ·rw[if_pos h0]at h
   exact absurd h h0
 ·rintro rfl
  exact isCmp_F.self hf.num
theorem jfo(l:List Int)(i:Nat)(hi:i<l.length)(hl:l.length≤1099511627776):
  CallsA Tryz.prog 243 1 l.length (l.map i64) [.c (.int .i64 i),.c (.int .i64 (i+1:Int))] (l.length - 1) ((l.eraseIdx i).map i64):=by
 have hpos:0<l.length:=by omega
 refine⟨⟨_,Tryz.func243,rfl,by decide⟩,fun w Z ρ k v0 vals hZ hh hcz hone hv0 hv=> ?_⟩
 obtain⟨v1,v2,rfl⟩: ∃v1 v2,vals=[v1,v2]:=by
  have:=hv.1
  match vals,this with
  |[v1,v2],_=>exact⟨v1,v2,rfl⟩
 have e1:v1= .int .i64 (i:Int):=by
  have h2:RepD w (Ag ρ Z) (.int .i64 i) v1:=hv.2 0 _ _ rfl rfl;cases h2;rfl
 have e2:v2= .int .i64 ((i+1:Nat):Int):=by
  have h2:RepD w (Ag ρ Z) (.int .i64 (i+1:Int)) v2:=hv.2 1 _ _ rfl rfl;cases h2;rfl
 subst e1 e2;obtain⟨o,ho,hroom,hcase⟩:=hv0;obtain⟨o',ho',hb⟩:=hh.rep k (.row 1 (l.map i64) true) (by simp[lk])
 obtain rfl:o'=o:=AX (ho'.symm.trans ho);have hb':=hb;obtain⟨hsz,happ,hlen,⟨hn1,hn2⟩,hc⟩:=hb';rcases hcase with⟨_,_,_,h4⟩|⟨hnil,a,c,rfl,hnc,hcm,had,hcap⟩
 ·omega
 have hgone:o'.gone=false:=by rw[hn2];exact hnil
 have hval: ∀j (hj:j<l.length),w.cell? ⟨o'.g,o'.o+j,none⟩=some (.int .i64 l[j]):=fun j hj=>by
  obtain⟨v,h1,h2⟩:=hc j (i64 l[j]) (by simp[hj])
  cases h2;exact h1
 have hH:Holds (Value.int .i64) w o'.g o'.o l.toArray:=fun j hj=>by
  have hj':j<l.length:=by simpa using hj
  refine⟨?_,(hh.owns.cells k o' ho hgone j (by rw[hsz];omega)).2⟩
  rw[hval j hj']
  simp[hj']
 have ha:a=⟨o'.g,o'.o,none⟩:=by
  rcases had with h|h
  ·omega
  ·rw[h];simp[Own.at]
 subst ha;have hcon:=AnyG.slices_Delete_int Tryz.laysDel o'.g o'.o c i (i+1) l w hH hnc (by unfold maxLen at hcm;omega) (by omega) (by omega)
 refine hcon.mono fun e w' ⟨he,q,hw⟩=> ?_
 have hnew:l.take i++l.drop (i+1)++List.replicate (i+1 - i) 0=l.eraseIdx i++[0]:=by
  rw[List.eraseIdx_eq_take_drop_succ,show i+1 - i=1 by omega];rfl
 rw[hnew]at hw
 have hlen2:(l.eraseIdx i).length=l.length - 1:=List.length_eraseIdx_of_lt hi
 rw[putRow_eq_setCells (Value.int .i64) w o'.g o'.o l.toArray _ q hH (by simp[hlen2];omega)]at hw
 have ht:=M0 hZ hh hcz ho hgone hb (vs:=(l.eraseIdx i++[0]).map (Value.int .i64)) (cs':=(l.eraseIdx i++[0]).map i64) (by simp[hlen2];omega) (QM _) q #[]
 have hg:Go.Sort.grow ((w.drewN q).setCells o'.g o'.o ((l.eraseIdx i++[0]).map (Value.int .i64))) #[]=w':=by
  rw[hw];simp[Go.Sort.grow,Sort.ahead]
 rw[hg]at ht
 have ht2:=ht.2;simp only[rm,if_true]at ht2;refine⟨_,he,ρ,ht.1,⟨ht2.owns,fun j b hjb=> ?_⟩,hone,fun ad h=> .inl h,o',ho,by omega,.inr ⟨hnil,_,c,by rw[show i+1 - i=1 by omega],by omega,hcm,.inr (by simp[Own.at]),hcap⟩⟩
 by_cases e:j=k
 ·subst e;rw[Bh]at hjb;cases hjb;obtain⟨o2,ho2,q1,q2,q3,q4,q5⟩:=ht2.rep j _ (Bh _ _ _);refine⟨o2,ho2,q1,q2,by simp at q3 ⊢;omega,q4,fun t x hx=>q5 t x ?_⟩
  rw[List.map_append,List.getElem?_append_left (jzg.1 hx).1]
  exact hx
 ·rw[Bz e]at hjb;cases hjb
end Go.Va
namespace Go.Va
open Int (natCast_add natCast_mul natCast_emod natCast_ediv natCast_pow)
open Go.Proofs
def cap(c:UInt8):Prop:=65≤c.toNat∧c.toNat<91
def mp:List UInt8→List Int→Bnd→List Bnd
 |[],_,b=>[b]
 |c::r,pts,b=>(List.range pts.length).flatMap fun i=>match b.point (c.toNat - 65) (pts.getD i 0)with
  |none=>[]
  |some b'=>mp r (pts.eraseIdx i) b'
def LW(c:UInt8)(r:List UInt8)(pts:List Int)(b:Bnd)(i:Nat):List Bnd:=match b.point (c.toNat - 65) (pts.getD i 0)with
 |none=>[]
 |some b'=>mp r (pts.eraseIdx i) b'
def AT(b:Bnd):List A:=[.agg b.ds]
def FT(c:UInt8)(r:List UInt8)(pts:List Int)(b:Bnd)(i:Nat):List (List A):=((List.range' i (pts.length - i)).flatMap (LW c r pts b)).map AT
theorem jdr(c:UInt8)(r:List UInt8)(pts:List Int)(b:Bnd):(mp (c::r) pts b).map AT=FT c r pts b 0:=by
 unfold FT;rw[mp,List.range_eq_range'];rfl
theorem jdN{c:UInt8}{r:List UInt8}{pts:List Int}{b:Bnd}{i:Nat}(h:i<pts.length):FT c r pts b i=(LW c r pts b i).map AT++FT c r pts b (i+1):=by
 unfold FT;rw[show pts.length - i=(pts.length - (i+1))+1 by omega,List.range'_succ,List.flatMap_cons,List.map_append]
theorem Z3{c:UInt8}{r:List UInt8}{pts:List Int}{b:Bnd}:FT c r pts b pts.length=[]:=by simp[FT]
@[simp]theorem jgz:({ data:= #[] }:ByteArray).toList=[]:=Wp []
@[simp]theorem jiA(l:List UInt8):JB .eql (bs l) { data:= #[] }=some (vB (decide (l=[]))):=by
 unfold JB;simp only[Wp,jgz];cases l<;>rfl
theorem Wh(x:Value): ∀(l:List UInt8) (pts:List Int) (b:Bnd),(∀c∈l,cap c)→(∀p∈pts,-1≤p∧p<1000000)→pts.length≤1000→l.length≤1000→
  Bp Tryz.prog x 183 [.c (.str (bs l)),.c (intsD pts),.agg b.ds,.c (.lit x)] ((mp l pts b).map AT)
 |[],pts,b,hl,hp,hn,hln=>by
  refine Cz (T:=tb) Ad mixed Tryz.func183 rfl (by decide) (Ac rfl) rfl rfl ?_;intro rest;unfold St.initY
  simp -implicitDefEqProofs[jJ,-natCast_add,-natCast_mul,-List.reduceReplicate];refine⟨AT b,rest,by simp[lk,mp],by simp[AT,St.argsW,U.toA,lk],?_⟩
  simp -implicitDefEqProofs[jJ,-natCast_add,-natCast_mul,-List.reduceReplicate,St.backY,St.rest,BH]
 |c::r,pts,b,hl,hp,hn,hln=>by
  rw[jdr]
  have hc:cap c:=hl c (by simp)
  obtain⟨k,hk⟩: ∃k,c.toNat=65+k:=⟨c.toNat - 65,by unfold cap at hc;omega⟩
  have hk26:k<26:=by unfold cap at hc;omega
  refine Cz (T:=tb) Ad mixed Tryz.func183 rfl (by decide) (Ac rfl) rfl rfl ?_;intro rest;unfold St.initY
  simp -implicitDefEqProofs[jJ,-natCast_add,-natCast_mul,-List.reduceReplicate];refine Av (fun i:Nat=>⟨[(1000000,.tr x (FT c r pts b i++rest)),(19,vI .i64 i),(18,vI .i64 pts.length),(17,vC (.d (intsD pts))),(6,vC (.ptr 6 0)),(0,vC (.d (.str (bs (c::r))))),(1,vC (.d (intsD pts))),(3,vC (.d (.lit x)))],[(6,.box b.cs)]⟩)
   (fun i=>i≤pts.length) (fun i=>pts.length - i) 0 (by simp[An,lk,St.le,vI,vC]) (by omega) ?_
  rintro i hi
  by_cases h:i<pts.length
  ·have hpi:=hp pts[i] (Ak h);simp -implicitDefEqProofs[jJ,-natCast_add,-natCast_mul,-List.reduceReplicate,h];refine Af (Aj [0,0,2,0,15,31,63,63,0,383,1023]) [.any [] [10] [⟨0,[6],[10],[10],[]⟩,⟨0,[0],[10],[10],[]⟩,⟨0,[26],[10],[10],[]⟩,⟨0,[9],[10],[10],[]⟩,⟨0,[25,27,28],[10],[10],[]⟩,⟨0,[29],[10],[10],[]⟩,⟨0,[24],[10],[10],[]⟩,⟨0,[24],[10],[10],[]⟩,⟨1,[],[],[],[]⟩,⟨2,[10,30],[],[],[10]⟩],.one] (by rfl) ?_
   simp -implicitDefEqProofs[jJ,-natCast_add,-natCast_mul,-List.reduceReplicate,h,hk];refine Al (EE b k hk26 pts[i] hpi) ?_;have hm:=jdN (c:=c) (r:=r) (b:=b) h;have hat:LW c r pts b i=match b.point k pts[i]with|none=>[]|some b'=>mp r (pts.eraseIdx i) b':=by
    unfold LW;rw[hk,Nat.add_sub_cancel_left,Ar,Ai h];rfl
   generalize b.point k pts[i]=ob at*;cases ob with
   |none=>
    simp only[List.map_nil,List.nil_append]at hat;rw[hat]at hm;simp -implicitDefEqProofs[jJ,-natCast_add,-natCast_mul,-List.reduceReplicate,Bu,hm];exact⟨by omega,i+1,⟨rfl,rfl⟩,by omega,by omega⟩
   |some b'=>
    simp only at hat;rw[hat]at hm;simp -implicitDefEqProofs[jJ,-natCast_add,-natCast_mul,-List.reduceReplicate,Bu,hm];refine Af (Aj [0,1,0,4,0,0,32,124,0,0,1023]) [.any [] [36,40] [⟨0,[0],[36,40],[36,40],[]⟩,⟨0,[33],[36,40],[36,40],[]⟩,⟨0,[1],[],[36,40],[]⟩,⟨1,[35],[],[40],[]⟩,⟨0,[8],[36],[36,40],[]⟩,⟨0,[8],[36],[36,40],[]⟩,⟨0,[38],[36],[36,40],[]⟩,⟨5,[36,37,39],[],[],[36]⟩,⟨0,[10],[36,40],[36,40],[]⟩,⟨0,[3],[36,40],[36,40],[]⟩],.one] (by rfl) ?_
    simp -implicitDefEqProofs[jJ,-natCast_add,-natCast_mul,-List.reduceReplicate];have hne:pts≠[]:=fun e=>by subst e;simp at h
    refine Al (Pj pts (by omega) hne) ?_
    simp -implicitDefEqProofs[jJ,-natCast_add,-natCast_mul,-List.reduceReplicate];refine⟨by omega,.inl ⟨36,pts.length,1,pts.length - 1,40,pts.map i64,(pts.eraseIdx i).map i64,_,_,rfl,by simp[lk],by simp[U.toA,toD],rfl,jfo pts i h (by omega),?_⟩⟩
    simp -implicitDefEqProofs[jJ,-natCast_add,-natCast_mul,-List.reduceReplicate];have ih:=Wh x r (pts.eraseIdx i) b' (fun c hc=>hl c (by simp[hc])) (fun p hpp=>hp p (List.mem_of_mem_eraseIdx hpp)) (by have:=List.length_eraseIdx_le (l:=pts) (i:=i);omega) (by simp at hln;omega)
    have ex1:(bs (c::r)).extract 1 (1+r.length)=bs r:=by
     have:=ND (c::r) 1 (by simp)
     simpa using this
    have ex2:(pts.eraseIdx i).length=pts.length - 1:=List.length_eraseIdx_of_lt h
    have ex3:List.take (pts.length - 1) ((pts.eraseIdx i).map i64)=(pts.eraseIdx i).map i64:=AI (by simp[ex2])
    refine .inr (.inr (.inl ⟨x,(mp r (pts.eraseIdx i) b').map AT,FT c r pts b (i+1)++rest,_,by simp[lk],?_,ih,?_⟩))
    ·simp[St.argsW,U.toA,toD,St.reachU,A6,U.all,lk,C.id?,Ay,ex1,ex2,ex3,intsD,BT]
    ·simp only[St.reachU,List.flatMap_cons,List.flatMap_nil,U.all,List.append_nil,List.cons_append,List.nil_append,Cb,Bnd.reach_cs,Ch,Cg,jaM (show lk 40 [(40,Blk.row 1 ((pts.eraseIdx i).map i64) true),(10,Blk.box b'.cs),(6,Blk.box b.cs)]=some (Blk.row 1 ((pts.eraseIdx i).map i64) true) from rfl)]
     simp -implicitDefEqProofs[jJ,-natCast_add,-natCast_mul,-List.reduceReplicate,St.backY,St.rest];exact⟨by omega,i+1,⟨rfl,rfl⟩,by omega,by omega⟩
  ·have hi2:i=pts.length:=by omega
   subst hi2;rw[Z3];simp -implicitDefEqProofs[jJ,-natCast_add,-natCast_mul,-List.reduceReplicate,BH]
end Go.Va
