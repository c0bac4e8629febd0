/- a part of the proof -/
import Derived.Test.YtkfdniccmcolgaaGreatQbg
import Derived.Test.YtkfdniccmcolgaaGreatQaq
import Derived.Test.YtkfdniccmcolgaaGreatQap
set_option linter.all false
set_option maxHeartbeats 4000000
set_option maxRecDepth 10000
namespace Go.Va
open Int (natCast_add natCast_mul natCast_emod natCast_ediv natCast_pow)
open Go.Proofs
theorem Pq.ds_len(p:Pq):p.ds.length=6:=rfl
def AP(l:List Pq):D:= .slice l.length (l.flatMap Pq.ds)
@[simp high]theorem J2(l:List Pq):(l.flatMap Pq.ds).length=l.length*6:=EO Pq.ds_len l
@[simp]theorem lenC_pqs(l:List Pq):lenC (.d (AP l))=some l.length:=rfl
@[simp]theorem flat_pqs(l:List Pq):D.flat (AP l)=false:=rfl
@[simp]theorem jb2(h:List (Nat×Blk))(i:Int)(l:List Pq):idxSl h 6 i (.d (AP l))=if 0≤i∧i<l.length then some (.d (.ref ((l.drop i.toNat).flatMap Pq.ds))) else none:=by
 unfold AP idxSl;simp only[J2,and_true,DZ Pq.ds_len]
theorem Ji{l:List Pq}{i:Nat}(h:i<l.length):(l.drop i).flatMap Pq.ds=l[i].ds++(l.drop (i+1)).flatMap Pq.ds:=by
 rw[AD h];rfl
def leanQ(a b c d e f g h:Pq):Rat:=(vec a b).cross (vec c d)*(vec e f).dot (vec g h) - (vec e f).cross (vec g h)*(vec a b).dot (vec c d)
theorem Je{a b c d e f g h:Pq}(ha:a.B 2)(hb:b.B 2)(hc:c.B 2)(hd:d.B 2)(he:e.B 2)(hf:f.B 2)(hg:g.B 2)(hh:h.B 2):
  CallsF Tryz.prog 167 [.c (AP [a,b,c,d,e,f,g,h])] (.u (.agg (A7 (leanQ a b c d e f g h)))):=by
 have k1:=EL ha hb hc hd (by omega)
 have k2:=Gu he hf hg hh (by omega)
 have k3:=EL he hf hg hh (by omega)
 have k4:=Gu ha hb hc hd (by omega)
 have b1:=DN (BB ha hb) (BB hc hd);have b2:=D7 (BB he hf) (BB hg hh);have b3:=DN (BB he hf) (BB hg hh);have b4:=D7 (BB ha hb) (BB hc hd);have m1:=Dt b1 b2 (by omega)
 have m2:=Dt b3 b4 (by omega)
 have s:=CM (b1.mul b2) (b3.mul b4) (by omega)
 unfold leanQ;generalize (vec a b).cross (vec c d)*(vec e f).dot (vec g h) - (vec e f).cross (vec g h)*(vec a b).dot (vec c d)=Z at*;generalize (vec a b).cross (vec c d)*(vec e f).dot (vec g h)=X at*;generalize (vec e f).cross (vec g h)*(vec a b).dot (vec c d)=Y at*;clear b1 b2 b3 b4;generalize (vec a b).cross (vec c d)=q1 at*;generalize (vec e f).dot (vec g h)=q2 at*;generalize (vec e f).cross (vec g h)=q3 at*;generalize (vec a b).dot (vec c d)=q4 at*;unfold AP Pq.ds at*;unfold AS A7 at*;simp only[List.cons_append,List.nil_append,List.flatMap_cons,List.flatMap_nil,List.append_nil,List.length_cons,List.length_nil,Nat.zero_add,Nat.reduceAdd]at*;refine Ae (T:=tb) Ad mixed Tryz.func167 rfl (by decide) (Ac rfl) rfl ?_;unfold St.init
 simp -implicitDefEqProofs[jJ,-natCast_add,-natCast_mul];refine Af (Aj [0,1,3,0,8,24,0,64,192,0,512,1536,4095,0,8192,24576,0,65536,196608,0,524288,1572864,0,4194304,12582912,33554431,67108863,0,268435455]) [.any [] [3] [⟨0,[0],[3],[3],[]⟩,⟨0,[5],[3],[3],[]⟩,⟨0,[6],[3],[3],[]⟩,⟨0,[0],[3],[3],[]⟩,⟨0,[8],[3],[3],[]⟩,⟨0,[9],[3],[3],[]⟩,⟨0,[0],[3],[3],[]⟩,⟨0,[11],[3],[3],[]⟩,⟨0,[12],[3],[3],[]⟩,⟨0,[0],[3],[3],[]⟩,⟨0,[14],[3],[3],[]⟩,⟨0,[15],[3],[3],[]⟩,⟨0,[7,10,13,16],[3],[3],[]⟩,⟨0,[0],[3],[3],[]⟩,⟨0,[18],[3],[3],[]⟩,⟨0,[19],[3],[3],[]⟩,⟨0,[0],[3],[3],[]⟩,⟨0,[21],[3],[3],[]⟩,⟨0,[22],[3],[3],[]⟩,⟨0,[0],[3],[3],[]⟩,⟨0,[24],[3],[3],[]⟩,⟨0,[25],[3],[3],[]⟩,⟨0,[0],[3],[3],[]⟩,⟨0,[27],[3],[3],[]⟩,⟨0,[28],[3],[3],[]⟩,⟨0,[20,23,26,29],[3],[3],[]⟩,⟨0,[17,30],[3],[3],[]⟩,⟨1,[],[],[],[]⟩],.one] (by rfl) ?_
 simp -implicitDefEqProofs[jJ,-natCast_add,-natCast_mul]
 (first|refine Aa k1 ?_|refine Al k1 ?_)
 simp -implicitDefEqProofs[jJ,-natCast_add,-natCast_mul]
 (first|refine Aa k2 ?_|refine Al k2 ?_)
 simp -implicitDefEqProofs[jJ,-natCast_add,-natCast_mul]
 (first|refine Aa m1 ?_|refine Al m1 ?_)
 simp -implicitDefEqProofs[jJ,-natCast_add,-natCast_mul];refine Af (Aj [0,1,3,0,8,24,0,64,192,0,512,1536,4095,0,8192,24576,0,65536,196608,0,524288,1572864,0,4194304,12582912,33554431,67108863,0,268435455]) [.any [] [4] [⟨0,[0],[4],[4],[]⟩,⟨0,[32],[4],[4],[]⟩,⟨0,[33],[4],[4],[]⟩,⟨0,[0],[4],[4],[]⟩,⟨0,[35],[4],[4],[]⟩,⟨0,[36],[4],[4],[]⟩,⟨0,[0],[4],[4],[]⟩,⟨0,[38],[4],[4],[]⟩,⟨0,[39],[4],[4],[]⟩,⟨0,[0],[4],[4],[]⟩,⟨0,[41],[4],[4],[]⟩,⟨0,[42],[4],[4],[]⟩,⟨0,[34,37,40,43],[4],[4],[]⟩,⟨0,[0],[4],[4],[]⟩,⟨0,[45],[4],[4],[]⟩,⟨0,[46],[4],[4],[]⟩,⟨0,[0],[4],[4],[]⟩,⟨0,[48],[4],[4],[]⟩,⟨0,[49],[4],[4],[]⟩,⟨0,[0],[4],[4],[]⟩,⟨0,[51],[4],[4],[]⟩,⟨0,[52],[4],[4],[]⟩,⟨0,[0],[4],[4],[]⟩,⟨0,[54],[4],[4],[]⟩,⟨0,[55],[4],[4],[]⟩,⟨0,[47,50,53,56],[4],[4],[]⟩,⟨0,[44,57],[4],[4],[]⟩,⟨1,[],[],[],[]⟩],.one] (by rfl) ?_
 simp -implicitDefEqProofs[jJ,-natCast_add,-natCast_mul]
 (first|refine Aa k3 ?_|refine Al k3 ?_)
 simp -implicitDefEqProofs[jJ,-natCast_add,-natCast_mul]
 (first|refine Aa k4 ?_|refine Al k4 ?_)
 simp -implicitDefEqProofs[jJ,-natCast_add,-natCast_mul]
 (first|refine Aa m2 ?_|refine Al m2 ?_)
 simp -implicitDefEqProofs[jJ,-natCast_add,-natCast_mul]
 (first|refine Aa s ?_|refine Al s ?_)
 simp -implicitDefEqProofs[jJ,-natCast_add,-natCast_mul]
theorem BP(d:D):CallsF Tryz.prog 161 [.c d] (.u (.c (.d d))):=by
 refine Ae (T:=tb) Ad mixed Tryz.func161 rfl (by decide) (Ac rfl) rfl ?_;unfold St.init
 simp -implicitDefEqProofs[jJ,-natCast_add,-natCast_mul]
theorem WO:CallsF Tryz.prog 111 [.c (.int .i64 2)] (.u (.agg (A7 2))):=by
 exact IZ 2 (by omega)
theorem Iv{q:Rat}{k:Nat}(hq:Bq q k)(hk1:1≤k)(hk:k≤300):CallsF Tryz.prog 166 [.agg (AS q)] (.u (.agg (A7 (2*q)))):=by
 have h2:Bq 2 k:=Bq.mono (j:=1) (by unfold Bq;decide) hk1
 have k1:=WO;have k2:=Dt h2 hq (by omega)
 generalize 2*q=Z at*;generalize (2:Rat)=T at*;unfold AS A7 at*;refine Ae (T:=tb) Ad mixed Tryz.func166 rfl (by decide) (Ac rfl) rfl ?_;unfold St.init
 simp -implicitDefEqProofs[jJ,-natCast_add,-natCast_mul];refine Af (Aj [0,0,3,7]) [.any [] [] (Ao [[],[1]]),.one,.one] (by rfl) ?_
 simp -implicitDefEqProofs[jJ,-natCast_add,-natCast_mul]
 (first|refine Aa k1 ?_|refine Al k1 ?_)
 simp -implicitDefEqProofs[jJ,-natCast_add,-natCast_mul]
 (first|refine Aa k2 ?_|refine Al k2 ?_)
 simp -implicitDefEqProofs[jJ,-natCast_add,-natCast_mul]
def Bt(l:List Rat):D:= .slice l.length (l.flatMap AS)
def A5(a b:Pq):Rat:=(vec a b).dot (vec a b)
def BD(kind:Int)(r:Rat)(l:List Pq):List Rat:=
 if kind=1 then (match l with|[a,b,c]=>[(vec a b).cross (vec a c)]|_=>[])
 else if kind=2 then (match l with|[a,b,c,d]=>[(vec a b).cross (vec c d)]|_=>[])
 else if kind=3 then (match l with|[a,b,c,d]=>[(vec a b).dot (vec c d)]|_=>[])
 else if kind=4 then (match l with|[a,b,c,d]=>[A5 a b - A5 c d]|_=>[])
 else if kind=5 then (match l with|[m,a,b]=>[a.x+b.x - 2*m.x,a.y+b.y - 2*m.y]|_=>[])
 else if kind=6 then (match l with|[a,b,c,d]=>[leanQ b a b c d a d c]|_=>[])
 else if kind=7 then (match l with|[a,b,c,d,e,f,g,h]=>[leanQ a b c d e f g h]|_=>[])
 else if kind=8 then (match l with|[a,b]=>[a.x - b.x,a.y - b.y]|_=>[])
 else (match l with|[a,b,c,d]=>[A5 a b - r*A5 c d]|_=>[])
theorem Hj:Bq 2 1:=by unfold Bq;decide
theorem Dw{a b:Pq}{k:Nat}(ha:a.B k)(hb:b.B k):Bq (A5 a b) (k+k+1+(k+k+1)+(k+k+1+(k+k+1))+1):=D7 (BB ha hb) (BB ha hb)
theorem R2{a b c:Pq}(al:List Int)(n0:Bool)(m0 d0:List Nat)(ha:a.B 2)(hb:b.B 2)(hc:c.B 2):
  CallsF Tryz.prog 82 [.agg [.int .i64 1,intsD al,.bool n0,Ab m0,Ab d0],.c (AP [a,b,c])] (.u (.c (.d (Bt [(vec a b).cross (vec a c)])))):=by
 have k1:=EL ha hb ha hc (by omega)
 generalize (vec a b).cross (vec a c)=Z at*;unfold AP Bt Pq.ds at*;unfold AS A7 at*;simp only[List.cons_append,List.nil_append,List.flatMap_cons,List.flatMap_nil,List.append_nil,List.length_cons,List.length_nil,Nat.zero_add,Nat.reduceAdd]at*;refine Ae (T:=tb) Ad mixed Tryz.func82 rfl (by decide) (Ac rfl) rfl ?_;unfold St.init
 simp -implicitDefEqProofs[jJ,-natCast_add,-natCast_mul];refine Af (Aj [0,1,3,0,8,24,0,64,192,0,512,1536,4095,8191,16383,32767]) [.any [] [] (Ao [[1],[9],[10],[1],[12],[13],[1],[15],[16],[1],[18],[19]]),.one,.one,.one,.one] (by rfl) ?_
 simp -implicitDefEqProofs[jJ,-natCast_add,-natCast_mul]
 (first|refine Aa k1 ?_|refine Al k1 ?_)
 simp -implicitDefEqProofs[jJ,-natCast_add,-natCast_mul]
 (first|refine Aa (BP _) ?_|refine Al (BP _) ?_)
 simp -implicitDefEqProofs[jJ,-natCast_add,-natCast_mul]
theorem Pc{a b c d:Pq}(al:List Int)(n0:Bool)(m0 d0:List Nat)(ha:a.B 2)(hb:b.B 2)(hc:c.B 2)(hd:d.B 2):
  CallsF Tryz.prog 82 [.agg [.int .i64 2,intsD al,.bool n0,Ab m0,Ab d0],.c (AP [a,b,c,d])] (.u (.c (.d (Bt [(vec a b).cross (vec c d)])))):=by
 have k1:=EL ha hb hc hd (by omega)
 generalize (vec a b).cross (vec c d)=Z at*;unfold AP Bt Pq.ds at*;unfold AS A7 at*;simp only[List.cons_append,List.nil_append,List.flatMap_cons,List.flatMap_nil,List.append_nil,List.length_cons,List.length_nil,Nat.zero_add,Nat.reduceAdd]at*;refine Ae (T:=tb) Ad mixed Tryz.func82 rfl (by decide) (Ac rfl) rfl ?_;unfold St.init
 simp -implicitDefEqProofs[jJ,-natCast_add,-natCast_mul];refine Af (Aj [0,1,3,0,8,24,0,64,192,0,512,1536,4095,8191,16383,32767]) [.any [] [] (Ao [[1],[26],[27],[1],[29],[30],[1],[32],[33],[1],[35],[36]]),.one,.one,.one,.one] (by rfl) ?_
 simp -implicitDefEqProofs[jJ,-natCast_add,-natCast_mul]
 (first|refine Aa k1 ?_|refine Al k1 ?_)
 simp -implicitDefEqProofs[jJ,-natCast_add,-natCast_mul]
 (first|refine Aa (BP _) ?_|refine Al (BP _) ?_)
 simp -implicitDefEqProofs[jJ,-natCast_add,-natCast_mul]
theorem M8{a b c d:Pq}(al:List Int)(n0:Bool)(m0 d0:List Nat)(ha:a.B 2)(hb:b.B 2)(hc:c.B 2)(hd:d.B 2):
  CallsF Tryz.prog 82 [.agg [.int .i64 3,intsD al,.bool n0,Ab m0,Ab d0],.c (AP [a,b,c,d])] (.u (.c (.d (Bt [(vec a b).dot (vec c d)])))):=by
 have k1:=Gu ha hb hc hd (by omega)
 generalize (vec a b).dot (vec c d)=Z at*;unfold AP Bt Pq.ds at*;unfold AS A7 at*;simp only[List.cons_append,List.nil_append,List.flatMap_cons,List.flatMap_nil,List.append_nil,List.length_cons,List.length_nil,Nat.zero_add,Nat.reduceAdd]at*;refine Ae (T:=tb) Ad mixed Tryz.func82 rfl (by decide) (Ac rfl) rfl ?_;unfold St.init
 simp -implicitDefEqProofs[jJ,-natCast_add,-natCast_mul];refine Af (Aj [0,1,3,0,8,24,0,64,192,0,512,1536,4095,8191,16383,32767]) [.any [] [] (Ao [[1],[43],[44],[1],[46],[47],[1],[49],[50],[1],[52],[53]]),.one,.one,.one,.one] (by rfl) ?_
 simp -implicitDefEqProofs[jJ,-natCast_add,-natCast_mul]
 (first|refine Aa k1 ?_|refine Al k1 ?_)
 simp -implicitDefEqProofs[jJ,-natCast_add,-natCast_mul]
 (first|refine Aa (BP _) ?_|refine Al (BP _) ?_)
 simp -implicitDefEqProofs[jJ,-natCast_add,-natCast_mul]
theorem Nz{a b c d:Pq}(al:List Int)(n0:Bool)(m0 d0:List Nat)(ha:a.B 2)(hb:b.B 2)(hc:c.B 2)(hd:d.B 2):
  CallsF Tryz.prog 82 [.agg [.int .i64 4,intsD al,.bool n0,Ab m0,Ab d0],.c (AP [a,b,c,d])] (.u (.c (.d (Bt [A5 a b - A5 c d])))):=by
 have k1:=FF ha hb (by omega)
 have k2:=FF hc hd (by omega)
 have e1:Bq (A5 a b) 21:=Dw (k:=2) ha hb;have e2:Bq (A5 c d) 21:=Dw (k:=2) hc hd;have s:=CM e1 e2 (by omega)
 clear e1 e2;unfold A5 at*;generalize (vec a b).dot (vec a b) - (vec c d).dot (vec c d)=Z at*;generalize (vec a b).dot (vec a b)=X at*;generalize (vec c d).dot (vec c d)=Y at*;unfold AP Bt Pq.ds at*;unfold AS A7 at*;simp only[List.cons_append,List.nil_append,List.flatMap_cons,List.flatMap_nil,List.append_nil,List.length_cons,List.length_nil,Nat.zero_add,Nat.reduceAdd]at*;refine Ae (T:=tb) Ad mixed Tryz.func82 rfl (by decide) (Ac rfl) rfl ?_;unfold St.init
 simp -implicitDefEqProofs[jJ,-natCast_add,-natCast_mul];refine Af (Aj [0,1,3,0,8,24,63,0,128,384,0,1024,3072,8191,16383,32767,65535,131071]) [.any [] [] (Ao [[1],[60],[61],[1],[63],[64],[62,65],[1],[67],[68],[1],[70],[71]]),.one,.one,.one,.one,.one] (by rfl) ?_
 simp -implicitDefEqProofs[jJ,-natCast_add,-natCast_mul]
 (first|refine Aa k1 ?_|refine Al k1 ?_)
 simp -implicitDefEqProofs[jJ,-natCast_add,-natCast_mul]
 (first|refine Aa k2 ?_|refine Al k2 ?_)
 simp -implicitDefEqProofs[jJ,-natCast_add,-natCast_mul]
 (first|refine Aa s ?_|refine Al s ?_)
 simp -implicitDefEqProofs[jJ,-natCast_add,-natCast_mul]
 (first|refine Aa (BP _) ?_|refine Al (BP _) ?_)
 simp -implicitDefEqProofs[jJ,-natCast_add,-natCast_mul]
theorem Pe{m a b:Pq}(al:List Int)(n0:Bool)(m0 d0:List Nat)(hm:m.B 2)(ha:a.B 2)(hb:b.B 2):
  CallsF Tryz.prog 82 [.agg [.int .i64 5,intsD al,.bool n0,Ab m0,Ab d0],.c (AP [m,a,b])] (.u (.c (.d (Bt [a.x+b.x - 2*m.x,a.y+b.y - 2*m.y])))):=by
 have k1:=GJ ha.1 hb.1 (by omega)
 have k2:=Iv hm.1 (by omega) (by omega)
 have h2:Bq 2 1:=Hj;have e1:Bq (a.x+b.x) 5:=Bq.add (j:=2) (k:=2) ha.1 hb.1;have e2:Bq (2*m.x) 5:=Bq.mono (j:=3) (Bq.mul (j:=1) (k:=2) h2 hm.1) (by omega)
 have k3:=CM e1 e2 (by omega)
 have k4:=GJ ha.2 hb.2 (by omega)
 have k5:=Iv hm.2 (by omega) (by omega)
 have e3:Bq (a.y+b.y) 5:=Bq.add (j:=2) (k:=2) ha.2 hb.2;have e4:Bq (2*m.y) 5:=Bq.mono (j:=3) (Bq.mul (j:=1) (k:=2) h2 hm.2) (by omega)
 have k6:=CM e3 e4 (by omega)
 generalize a.x+b.x - 2*m.x=Z1 at*;generalize a.y+b.y - 2*m.y=Z2 at*;generalize a.x+b.x=X1 at*;generalize a.y+b.y=X2 at*;generalize 2*m.x=Y1 at*;generalize 2*m.y=Y2 at*;clear h2 e1 e2 e3 e4;unfold AP Bt Pq.ds at*;unfold AS A7 at*;simp only[List.cons_append,List.nil_append,List.flatMap_cons,List.flatMap_nil,List.append_nil,List.length_cons,List.length_nil,Nat.zero_add,Nat.reduceAdd]at*;refine Ae (T:=tb) Ad mixed Tryz.func82 rfl (by decide) (Ac rfl) rfl ?_;unfold St.init
 simp -implicitDefEqProofs[jJ,-natCast_add,-natCast_mul];refine Af (Aj [0,1,3,7,0,16,48,112,255,0,512,1536,3584,8191,16383,0,32768,98304,229376,0,524288,1572864,3670016,8388607,0,16777216,50331648,117440512,268435455,536870911,1073741823,2147483647,4294967295]) [.any [] [] (Ao [[1],[79],[80],[81],[1],[83],[84],[85],[82,86],[1],[88],[89],[90],[91],[87,92],[1],[94],[95],[96],[1],[98],[99],[100],[97,101],[1],[103],[104],[105]]),.one,.one,.one,.one,.one] (by rfl) ?_
 simp -implicitDefEqProofs[jJ,-natCast_add,-natCast_mul]
 (first|refine Aa k1 ?_|refine Al k1 ?_)
 simp -implicitDefEqProofs[jJ,-natCast_add,-natCast_mul]
 (first|refine Aa k2 ?_|refine Al k2 ?_)
 simp -implicitDefEqProofs[jJ,-natCast_add,-natCast_mul]
 (first|refine Aa k3 ?_|refine Al k3 ?_)
 simp -implicitDefEqProofs[jJ,-natCast_add,-natCast_mul]
 (first|refine Aa k4 ?_|refine Al k4 ?_)
 simp -implicitDefEqProofs[jJ,-natCast_add,-natCast_mul]
 (first|refine Aa k5 ?_|refine Al k5 ?_)
 simp -implicitDefEqProofs[jJ,-natCast_add,-natCast_mul]
 (first|refine Aa k6 ?_|refine Al k6 ?_)
 simp -implicitDefEqProofs[jJ,-natCast_add,-natCast_mul]
 (first|refine Aa (BP _) ?_|refine Al (BP _) ?_)
 simp -implicitDefEqProofs[jJ,-natCast_add,-natCast_mul]
theorem XJ{a b c d:Pq}(al:List Int)(n0:Bool)(m0 d0:List Nat)(ha:a.B 2)(hb:b.B 2)(hc:c.B 2)(hd:d.B 2):
  CallsF Tryz.prog 82 [.agg [.int .i64 6,intsD al,.bool n0,Ab m0,Ab d0],.c (AP [a,b,c,d])] (.u (.c (.d (Bt [leanQ b a b c d a d c])))):=by
 have k1:=Je hb ha hb hc hd ha hd hc;generalize leanQ b a b c d a d c=Z at*;unfold AP Bt Pq.ds at*;unfold AS A7 at*;simp only[List.cons_append,List.nil_append,List.flatMap_cons,List.flatMap_nil,List.append_nil,List.length_cons,List.length_nil,Nat.zero_add,Nat.reduceAdd]at*;refine Ae (T:=tb) Ad mixed Tryz.func82 rfl (by decide) (Ac rfl) rfl ?_;unfold St.init
 simp -implicitDefEqProofs[jJ,-natCast_add,-natCast_mul];refine Af (Aj [0,1,3,0,8,24,0,64,192,0,512,1536,0,4096,12288,0,32768,98304,0,262144,786432,0,2097152,6291456,16777215,33554431,67108863,134217727,268435455]) [.any [] [] (Ao [[1],[113],[114],[1],[116],[117],[1],[119],[120],[1],[122],[123],[1],[125],[126],[1],[128],[129],[1],[131],[132],[1],[134],[135]]),.one,.one,.one,.one,.one] (by rfl) ?_
 simp -implicitDefEqProofs[jJ,-natCast_add,-natCast_mul]
 (first|refine Aa k1 ?_|refine Al k1 ?_)
 simp -implicitDefEqProofs[jJ,-natCast_add,-natCast_mul]
 (first|refine Aa (BP _) ?_|refine Al (BP _) ?_)
 simp -implicitDefEqProofs[jJ,-natCast_add,-natCast_mul]
theorem PP{a b c d e f g h:Pq}(al:List Int)(n0:Bool)(m0 d0:List Nat)(ha:a.B 2)(hb:b.B 2)(hc:c.B 2)(hd:d.B 2)(he:e.B 2)(hf:f.B 2)(hg:g.B 2)(hh:h.B 2):
  CallsF Tryz.prog 82 [.agg [.int .i64 7,intsD al,.bool n0,Ab m0,Ab d0],.c (AP [a,b,c,d,e,f,g,h])] (.u (.c (.d (Bt [leanQ a b c d e f g h])))):=by
 have k1:=Je ha hb hc hd he hf hg hh;generalize leanQ a b c d e f g h=Z at*;unfold AP Bt Pq.ds at*;unfold AS A7 at*;simp only[List.cons_append,List.nil_append,List.flatMap_cons,List.flatMap_nil,List.append_nil,List.length_cons,List.length_nil,Nat.zero_add,Nat.reduceAdd]at*;refine Ae (T:=tb) Ad mixed Tryz.func82 rfl (by decide) (Ac rfl) rfl ?_;unfold St.init
 simp -implicitDefEqProofs[jJ,-natCast_add,-natCast_mul]
 (first|refine Aa k1 ?_|refine Al k1 ?_)
 simp -implicitDefEqProofs[jJ,-natCast_add,-natCast_mul]
 (first|refine Aa (BP _) ?_|refine Al (BP _) ?_)
 simp -implicitDefEqProofs[jJ,-natCast_add,-natCast_mul]
theorem Sj{a b:Pq}(al:List Int)(n0:Bool)(m0 d0:List Nat)(ha:a.B 2)(hb:b.B 2):
  CallsF Tryz.prog 82 [.agg [.int .i64 8,intsD al,.bool n0,Ab m0,Ab d0],.c (AP [a,b])] (.u (.c (.d (Bt [a.x - b.x,a.y - b.y])))):=by
 have k1:=CM ha.1 hb.1 (by omega)
 have k2:=CM ha.2 hb.2 (by omega)
 generalize a.x - b.x=Z1 at*;generalize a.y - b.y=Z2 at*;unfold AP Bt Pq.ds at*;unfold AS A7 at*;simp only[List.cons_append,List.nil_append,List.flatMap_cons,List.flatMap_nil,List.append_nil,List.length_cons,List.length_nil,Nat.zero_add,Nat.reduceAdd]at*;refine Ae (T:=tb) Ad mixed Tryz.func82 rfl (by decide) (Ac rfl) rfl ?_;unfold St.init
 simp -implicitDefEqProofs[jJ,-natCast_add,-natCast_mul];refine Af (Aj [0,1,3,7,0,16,48,112,255,0,512,1536,3584,0,8192,24576,57344,131071,262143,524287,1048575]) [.any [] [] (Ao [[1],[149],[150],[151],[1],[153],[154],[155],[152,156],[1],[158],[159],[160],[1],[162],[163],[164]]),.one,.one,.one,.one] (by rfl) ?_
 simp -implicitDefEqProofs[jJ,-natCast_add,-natCast_mul]
 (first|refine Aa k1 ?_|refine Al k1 ?_)
 simp -implicitDefEqProofs[jJ,-natCast_add,-natCast_mul]
 (first|refine Aa k2 ?_|refine Al k2 ?_)
 simp -implicitDefEqProofs[jJ,-natCast_add,-natCast_mul]
 (first|refine Aa (BP _) ?_|refine Al (BP _) ?_)
 simp -implicitDefEqProofs[jJ,-natCast_add,-natCast_mul]
theorem K6{a b c d:Pq}(al:List Int)(n0:Bool)(m0 d0:List Nat)(ha:a.B 2)(hb:b.B 2)(hc:c.B 2)(hd:d.B 2){r:Rat}(hr:Bq r 4):
  CallsF Tryz.prog 82 [.agg [.int .i64 9,intsD al,.bool (decide (r.num<0)),Ab (limbs r.num.natAbs),Ab (limbs r.den)],.c (AP [a,b,c,d])] (.u (.c (.d (Bt [A5 a b - r*A5 c d])))):=by
 have k1:=FF ha hb (by omega)
 have k2:=FF hc hd (by omega)
 have e1:Bq (A5 a b) 21:=Dw (k:=2) ha hb;have e2:Bq (A5 c d) 21:=Dw (k:=2) hc hd;have e3:Bq r 21:=Bq.mono (j:=4) hr (by omega)
 have m:=Dt e3 e2 (by omega)
 have e4:Bq (r*A5 c d) 25:=Bq.mul (j:=4) (k:=21) hr e2;have s:=CM (Bq.mono (k:=25) e1 (by omega)) e4 (by omega)
 clear e1 e2 e3 e4 hr;unfold A5 at*;generalize (vec a b).dot (vec a b) - r*(vec c d).dot (vec c d)=Z at*;generalize r*(vec c d).dot (vec c d)=Y at*;generalize (vec a b).dot (vec a b)=X at*;generalize (vec c d).dot (vec c d)=W at*;unfold AP Bt Pq.ds at*;unfold AS A7 at*;simp only[List.cons_append,List.nil_append,List.flatMap_cons,List.flatMap_nil,List.append_nil,List.length_cons,List.length_nil,Nat.zero_add,Nat.reduceAdd]at*;refine Ae (T:=tb) Ad mixed Tryz.func82 rfl (by decide) (Ac rfl) rfl ?_;unfold St.init
 simp -implicitDefEqProofs[jJ,-natCast_add,-natCast_mul];refine Af (Aj [0,1,3,0,8,24,63,0,128,0,512,1536,0,4096,12288,32383,65535,131071,262143,524287,1048575]) [.any [] [] (Ao [[1],[169],[170],[1],[172],[173],[171,174],[2],[176],[1],[178],[179],[1],[181],[182],[180,183]]),.one,.one,.one,.one,.one] (by rfl) ?_
 simp -implicitDefEqProofs[jJ,-natCast_add,-natCast_mul]
 (first|refine Aa k1 ?_|refine Al k1 ?_)
 simp -implicitDefEqProofs[jJ,-natCast_add,-natCast_mul]
 (first|refine Aa k2 ?_|refine Al k2 ?_)
 simp -implicitDefEqProofs[jJ,-natCast_add,-natCast_mul]
 (first|refine Aa m ?_|refine Al m ?_)
 simp -implicitDefEqProofs[jJ,-natCast_add,-natCast_mul]
 (first|refine Aa s ?_|refine Al s ?_)
 simp -implicitDefEqProofs[jJ,-natCast_add,-natCast_mul]
 (first|refine Aa (BP _) ?_|refine Al (BP _) ?_)
 simp -implicitDefEqProofs[jJ,-natCast_add,-natCast_mul]
theorem IP(q:Rat):(AS q).length=3:=rfl
@[simp high]theorem QG(l:List Rat):(l.flatMap AS).length=l.length*3:=EO IP l
@[simp]theorem jb6(l:List Rat):lenC (.d (Bt l))=some l.length:=rfl
@[simp]theorem jcl(l:List Rat):D.flat (Bt l)=false:=rfl
@[simp]theorem jca(h:List (Nat×Blk))(i:Int)(l:List Rat):idxSl h 3 i (.d (Bt l))=if 0≤i∧i<l.length then some (.d (.ref ((l.drop i.toNat).flatMap AS))) else none:=by
 unfold Bt idxSl;simp only[QG,and_true,DZ IP]
theorem Q4{l:List Rat}{i:Nat}(h:i<l.length):(l.drop i).flatMap AS= .bool (decide (l[i].num<0))::Ab (limbs l[i].num.natAbs)::Ab (limbs l[i].den)::(l.drop (i+1)).flatMap AS:=by
 rw[AD h];rfl
theorem H6{q:Rat}:sgnQ q=0↔q=0:=by
 unfold sgnQ;by_cases h:q=0
 ·simp[h]
 ·rw[if_neg h]
  constructor
  ·intro h2;split at h2<;>cases h2
  ·intro h2;exact absurd h2 h
theorem OB(f:Fct)(P:D)(l:List Rat)(hl:l.length≤1000)(hb: ∀q∈l,Bq q 100)
  (hV:CallsF Tryz.prog 40 [.agg f.ds,.c P] (.tup [.c (.d (Bt l)),.c (.d (.int .i64 0))])):
  CallsF Tryz.prog 23 [.agg f.ds,.c P] (.tup [.c (.d (.bool (l.all fun q=>decide (q=0)))),.c (.d (.int .i64 0))]):=by
 have ks:=fun i (h:i<l.length)=>HH (hb _ (Ak h)) (by omega)
 have hfin:(∀j (h:j<l.length),l[j]=0)→(l.all fun q=>decide (q=0))=true:=fun h3=>by
  rw[jzy]
  intro x hx;obtain⟨j,hj,rfl⟩:=List.mem_iff_getElem.1 hx;simp[h3 j hj]
 have hcl: ∀i (h:i<l.length),l[i]≠0→(l.all fun q=>decide (q=0))=false:=fun i h hn=>by
  rw[List.all_eq_false]
  exact⟨_,Ak h,by simpa using hn⟩
 generalize (l.all fun q=>decide (q=0))=ba at*
 clear hb;simp only[Fct.ds]at*;unfold AS at ks;refine Ae (T:=tb) Ad mixed Tryz.func23 rfl (by decide) (Ac rfl) rfl ?_;unfold St.init
 simp -implicitDefEqProofs[jJ,-natCast_add,-natCast_mul]
 (first|refine Aa hV ?_|refine Al hV ?_)
 simp -implicitDefEqProofs[jJ,-natCast_add,-natCast_mul];refine Av (fun i:Nat=>⟨[(21,vI .i64 i),(20,vI .i64 l.length),(19,vC (.d (Bt l)))],[]⟩)
  (fun i=>i≤l.length∧ ∀j (h:j<l.length),j<i→l[j]=0) (fun i=>l.length - i) 0 (by simp[An,lk,St.le,vI,vC]) ⟨by omega,fun j h hj=>by omega⟩ ?_
 rintro i ⟨h2,h3⟩
 by_cases h:i<l.length
 ·have e2:=Q4 h;have ks:=ks i h;have hcl:=hcl i h;have hz:= @H6 l[i];generalize sgnQ l[i]=s at*;by_cases hs:s=0
  ·have hq:=hz.1 hs;subst hs;simp -implicitDefEqProofs[jJ,-natCast_add,-natCast_mul,h,e2]
   (first|refine Aa ks ?_|refine Al ks ?_)
   simp -implicitDefEqProofs[jJ,-natCast_add,-natCast_mul];exact⟨by omega,⟨by omega,fun j hj hp=>if e:j=i then by subst e;exact hq else h3 j hj (by omega)⟩,by omega⟩
  ·have hq:=hcl fun e=>hs (hz.2 e)
   simp -implicitDefEqProofs[jJ,-natCast_add,-natCast_mul,h,e2]
   (first|refine Aa ks ?_|refine Al ks ?_)
   simp -implicitDefEqProofs[jJ,-natCast_add,-natCast_mul,hs,hq]
 ·have hi2:i=l.length:=by omega
  subst hi2;have hany:=hfin fun j hj=>h3 j hj hj
  subst hany;simp -implicitDefEqProofs[jJ,-natCast_add,-natCast_mul]
end Go.Va
