/- a part of the proof -/
import Derived.Test.YtkajmpgbnbikiaaGreatDoorPbi
import Derived.Test.YtkajmpgbnbikiaaGreatDoorPbb
import Derived.Test.YtkajmpgbnbikiaaGreatDoorPba
import Derived.Test.YtkajmpgbnbikiaaGreatDoorPao
set_option linter.all false
set_option maxRecDepth 1000000
set_option maxHeartbeats 4000000
namespace Go.Va
open Go.Proofs
def ev44_t:Tb2:=⟨[(43,[([.agg [.slice 2 [eI 5,.slice 3 [eI 3,eI 1,eI 2],eO,eN,eN,eI 0,eN,eI 5,.slice 3 [eI 4,eI 0,eI 2],eO,eN,eN,eI 0,eN],eN]],.tup [.agg [.d (.slice 12 [eI 5,.slice 3 [eI 3,eI 1,eI 2],eO,eN,eN,eI 0,eN,eI 5,.slice 3 [eI 4,eI 0,eI 2],eO,eN,eN,eI 0,eN,eI 1,.slice 3 [eI 0,eI 2,eI 4],eO,eN,eN,eI 5,.slice 1 [eI 1],eI 1,.slice 3 [eI 1,eI 2,eI 3],eO,eN,eN,eI 5,.slice 1 [eI 0],eI 2,.slice 4 [eI 0,eI 1,eI 3,eI 4],eO,eN,eN,eI 6,.slice 2 [eI 0,eI 1],eI 4,.slice 4 [eI 0,eI 4,eI 2,eI 4],eO,eN,eN,eI 5,.slice 1 [eI 1],eI 4,.slice 4 [eI 1,eI 3,eI 2,eI 3],eO,eN,eN,eI 5,.slice 1 [eI 0],eI 9,.slice 4 [eI 0,eI 1,eI 3,eI 4],eO,.slice 1 [.int .u16 4],.slice 1 [.int .u16 1],eI 6,.slice 2 [eI 0,eI 1],eI 9,.slice 4 [eI 0,eI 2,eI 0,eI 4],eO,.slice 1 [.int .u16 4],.slice 1 [.int .u16 1],eI 5,.slice 1 [eI 1],eI 9,.slice 4 [eI 0,eI 2,eI 2,eI 4],eO,.slice 1 [.int .u16 4],.slice 1 [.int .u16 1],eI 5,.slice 1 [eI 1],eI 9,.slice 4 [eI 1,eI 2,eI 1,eI 3],eO,.slice 1 [.int .u16 4],.slice 1 [.int .u16 1],eI 5,.slice 1 [eI 0],eI 9,.slice 4 [eI 1,eI 2,eI 2,eI 3],eO,.slice 1 [.int .u16 4],.slice 1 [.int .u16 1],eI 5,.slice 1 [eI 0]]),.d eN],.c (.d (.bool true))])])],[]⟩
theorem jaz:ev44_t.Ok Tryz.prog:=Ay Xt (by decide+kernel)
def evL15:Tb2:=(ev44_t.app evL14)
theorem P0:evL15.Ok Tryz.prog:=(Tb2.ok_app jaz Xt)
def ev45_t:Tb2:=⟨[(17,[([.agg [.slice 5 [eI 1,.str ⟨#[65]⟩,eN,eO,eN,eN,eI 1,.str ⟨#[66]⟩,eN,eO,eN,eN,eI 1,.str ⟨#[67]⟩,eN,eO,eN,eN,eI 2,.str ⟨#[77]⟩,.slice 2 [eI 1,eI 2],eO,.slice 1 [.int .u16 1],.slice 1 [.int .u16 2],eI 2,.str ⟨#[78]⟩,.slice 2 [eI 0,eI 2],eO,.slice 1 [.int .u16 1],.slice 1 [.int .u16 2]],.slice 1 [eI 2,.slice 4 [eI 3,eI 4,eI 0,eI 1],eO,eN,eN]],.c (eI 0)],.tup [.agg [.d (.slice 12 [eI 5,.slice 3 [eI 3,eI 1,eI 2],eO,eN,eN,eI 0,eN,eI 5,.slice 3 [eI 4,eI 0,eI 2],eO,eN,eN,eI 0,eN,eI 1,.slice 3 [eI 0,eI 2,eI 4],eO,eN,eN,eI 5,.slice 1 [eI 1],eI 1,.slice 3 [eI 1,eI 2,eI 3],eO,eN,eN,eI 5,.slice 1 [eI 0],eI 2,.slice 4 [eI 0,eI 1,eI 3,eI 4],eO,eN,eN,eI 6,.slice 2 [eI 0,eI 1],eI 4,.slice 4 [eI 0,eI 4,eI 2,eI 4],eO,eN,eN,eI 5,.slice 1 [eI 1],eI 4,.slice 4 [eI 1,eI 3,eI 2,eI 3],eO,eN,eN,eI 5,.slice 1 [eI 0],eI 9,.slice 4 [eI 0,eI 1,eI 3,eI 4],eO,.slice 1 [.int .u16 4],.slice 1 [.int .u16 1],eI 6,.slice 2 [eI 0,eI 1],eI 9,.slice 4 [eI 0,eI 2,eI 0,eI 4],eO,.slice 1 [.int .u16 4],.slice 1 [.int .u16 1],eI 5,.slice 1 [eI 1],eI 9,.slice 4 [eI 0,eI 2,eI 2,eI 4],eO,.slice 1 [.int .u16 4],.slice 1 [.int .u16 1],eI 5,.slice 1 [eI 1],eI 9,.slice 4 [eI 1,eI 2,eI 1,eI 3],eO,.slice 1 [.int .u16 4],.slice 1 [.int .u16 1],eI 5,.slice 1 [eI 0],eI 9,.slice 4 [eI 1,eI 2,eI 2,eI 3],eO,.slice 1 [.int .u16 4],.slice 1 [.int .u16 1],eI 5,.slice 1 [eI 0]]),.d eN],.c (.d (eI 0))])])],[]⟩
theorem jdw:ev45_t.Ok Tryz.prog:=Ay P0 (by decide+kernel)
def evL16:Tb2:=(ev45_t.app evL15)
theorem jky:evL16.Ok Tryz.prog:=(Tb2.ok_app jdw P0)
def ev46_t:Tb2:=⟨[(7,[([],.u (.c (.d (.bool true))))])],[]⟩
theorem ev46_ok:ev46_t.Ok Tryz.prog:=Ay jky (by decide+kernel)
theorem jbs:CallsF Tryz.prog 7 [] (.u (.c (.d (.bool true)))):=
 ev46_ok.1 (7,[([],.u (.c (.d (.bool true))))]) (List.mem_singleton.2 rfl) ([],.u (.c (.d (.bool true)))) (List.mem_singleton.2 rfl)
end Go.Va
namespace Go.Va
open Int (natCast_add natCast_mul natCast_emod natCast_ediv natCast_pow)
open Go.Proofs
theorem jfX{ds:List Der}{gs:List Grd}(hin: ∀x∈ds,InFact x.fact)(h:Gd ds gs=true):ds.length≤40∧gs.length≤20∧(∀x∈ds,x.Mild∧x.fact.abs.length≤2∧x.fact.den.length≤2)∧ ∀g∈gs,g.args.length≤20:=by
 unfold Gd at h;simp only[Av,decide_eq_true_eq,jzy]at h;obtain⟨h1,h2,h3,h4⟩:=h;refine⟨h1,h2,fun x hx=> ?_,fun g hg=> ?_⟩
 ·have q:=h3 x hx;unfold G9 at q;simp only[Av,decide_eq_true_eq]at q;exact⟨⟨⟨by omega,by omega,(hin x hx).oa,(hin x hx).od,by omega⟩,by omega⟩,q.2.2.1,q.2.2.2⟩
 ·have q:=h4 g hg;unfold GT at q
  simpa using q
theorem jeP(ds:List Der)(gs:List Grd)(n:Int)(hin: ∀x∈ds,InFact x.fact):CallsF Tryz.prog 3 [.agg [Ds ds,AR gs],.c (.int .i64 n)] (.u (.c (.d (.bool true)))):=by
 have km:=jeO ds gs;have ka:=jbs;cases hm:Gd ds gs with
 |false=>
  rw[hm]at km
  refine Aj (T:=tb) Ai mixed Tryz.func3 rfl (by decide) (Ah rfl) rfl ?_;unfold St.init
  simp -implicitDefEqProofs[jJ,-natCast_add,-natCast_mul]
  (first|refine Ab km ?_|refine Aa km ?_)
  simp -implicitDefEqProofs[jJ,-natCast_add,-natCast_mul]
  (first|refine Ab ka ?_|refine Aa ka ?_)
  simp -implicitDefEqProofs[jJ,-natCast_add,-natCast_mul]
 |true=>
  obtain⟨h1,h2,h3,h4⟩:=jfX hin hm
  rw[hm]at km
  have k1:=jju ds gs n (by omega) (by omega) (fun x hx=>(h3 x hx).1) (fun g hg=>by have:=h4 g hg;omega)
  have k2:=jdP ds gs n (by omega) (by omega) (fun x hx=>(h3 x hx).1) (fun g hg=>by have:=h4 g hg;omega)
  generalize errR n ds gs=e at*;refine Aj (T:=tb) Ai mixed Tryz.func3 rfl (by decide) (Ah rfl) rfl ?_;unfold St.init
  simp -implicitDefEqProofs[jJ,-natCast_add,-natCast_mul]
  (first|refine Ab km ?_|refine Aa km ?_)
  simp -implicitDefEqProofs[jJ,-natCast_add,-natCast_mul];refine Ar (Ac [0,0,3,0,0,31,63,127,255,511,1023]) [.any [] [] (Ak [[2],[1],[9,10],[2],[1]]),.one,.one,.one,.one,.one,.one] (by rfl) ?_
  simp -implicitDefEqProofs[jJ,-natCast_add,-natCast_mul]
  (first|refine Ab k1 ?_|refine Aa k1 ?_)
  simp -implicitDefEqProofs[jJ,-natCast_add,-natCast_mul]
  (first|refine Ab k2 ?_|refine Aa k2 ?_)
  simp -implicitDefEqProofs[jJ,-natCast_add,-natCast_mul]
  (first|refine Ab ka ?_|refine Aa ka ?_)
  simp -implicitDefEqProofs[jJ,-natCast_add,-natCast_mul]
end Go.Va
