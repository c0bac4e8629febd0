/- a part of the proof -/
import Derived.Shelf.SlSortCmp.NoneTotal
import Derived.Shelf.Slices.In.SortNone
import Derived.Shelf.SlicesG.Delete
import Derived.Test.YtkajmpgbnbikiaaGreatDoorProg
import Derived.Test.YtkajmpgbnbikiaaGreatDoorMaq
import Derived.Lib.RowBridge
import Derived.Shelf.Sort.Plain
set_option linter.all false
set_option maxHeartbeats 4000000
set_option maxRecDepth 10000
namespace Go.Proofs
open Go.Shelf
def Tryz.laysSF_ren:Go.Shelf.Ren:=⟨fun|6=>198|15=>279|14=>278|28=>326|29=>327|20=>318|21=>319|22=>320|23=>321|24=>322|25=>323|26=>324|27=>325|46=>351|47=>352|48=>353|49=>354|50=>355|57=>372|n=>n,fun|22=>166|24=>169|25=>241|3=>3|39=>302|0=>0|53=>339|55=>155|4=>4|46=>333|45=>332|50=>163|5=>5|9=>9|66=>359|70=>354|76=>377|77=>378|n=>n,fun|n=>n⟩
theorem Tryz.laysSF:Go.Proofs.SlLaysF0.n6 Tryz.prog Tryz.laysSF_ren:={
 mixed:=by kernel_rfl
 f6:=⟨Tryz.f198.name,by decide,Tryz.func198.trans (congrArg some (by kernel_rfl))⟩
 f14:=⟨Tryz.f278.name,by decide,Tryz.func278.trans (congrArg some (by kernel_rfl))⟩
 f15:=Tryz.func279.trans (congrArg some (by kernel_rfl))
 f20:=⟨Tryz.f318.name,by decide,Tryz.func318.trans (congrArg some (by kernel_rfl))⟩
 f21:=⟨Tryz.f319.name,by decide,Tryz.func319.trans (congrArg some (by kernel_rfl))⟩
 f22:=⟨Tryz.f320.name,by decide,Tryz.func320.trans (congrArg some (by kernel_rfl))⟩
 f23:=⟨Tryz.f321.name,by decide,Tryz.func321.trans (congrArg some (by kernel_rfl))⟩
 f24:=⟨Tryz.f322.name,by decide,Tryz.func322.trans (congrArg some (by kernel_rfl))⟩
 f25:=⟨Tryz.f323.name,by decide,Tryz.func323.trans (congrArg some (by kernel_rfl))⟩
 f26:=⟨Tryz.f324.name,by decide,Tryz.func324.trans (congrArg some (by kernel_rfl))⟩
 f27:=⟨Tryz.f325.name,by decide,Tryz.func325.trans (congrArg some (by kernel_rfl))⟩
 f28:=Tryz.func326.trans (congrArg some (by kernel_rfl))
 f29:=Tryz.func327.trans (congrArg some (by kernel_rfl))
 f46:=⟨Tryz.f351.name,by decide,Tryz.func351.trans (congrArg some (by kernel_rfl))⟩
 f47:=Tryz.func352.trans (congrArg some (by kernel_rfl))
 f48:=Tryz.func353.trans (congrArg some (by kernel_rfl))
 f49:=⟨Tryz.f354.name,by decide,Tryz.func354.trans (congrArg some (by kernel_rfl))⟩
 f50:=⟨Tryz.f355.name,by decide,Tryz.func355.trans (congrArg some (by kernel_rfl))⟩
 f57:=⟨Tryz.f372.name,by decide,Tryz.func372.trans (congrArg some (by kernel_rfl))⟩
 t0:=Tryz.underlying0
 a0:=Tryz.isAgg0
 z0:=Tryz.sizeOf0
 v0:=Tryz.zeroValue0
 t3:=Tryz.underlying3
 a3:=Tryz.isAgg3
 z3:=Tryz.sizeOf3
 v3:=Tryz.zeroValue3
 t4:=Tryz.underlying4
 a4:=Tryz.isAgg4
 z4:=Tryz.sizeOf4
 v4:=Tryz.zeroValue4
 t5:=Tryz.underlying5
 a5:=Tryz.isAgg5
 z5:=Tryz.sizeOf5
 v5:=Tryz.zeroValue5
 t9:=Tryz.underlying9
 a9:=Tryz.isAgg9
 z9:=Tryz.sizeOf9
 v9:=Tryz.zeroValue9
 t22:=Tryz.underlying166
 a22:=Tryz.isAgg166
 z22:=Tryz.sizeOf166
 v22:=Tryz.zeroValue166
 t25:=Tryz.underlying241
 a25:=Tryz.isAgg241
 z25:=Tryz.sizeOf241
 v25:=Tryz.zeroValue241
 t39:=Tryz.underlying302
 a39:=Tryz.isAgg302
 z39:=Tryz.sizeOf302
 v39:=Tryz.zeroValue302
 t45:=Tryz.underlying332
 a45:=Tryz.isAgg332
 z45:=Tryz.sizeOf332
 v45:=Tryz.zeroValue332
 t46:=Tryz.underlying333
 a46:=Tryz.isAgg333
 z46:=Tryz.sizeOf333
 v46:=Tryz.zeroValue333
 t50:=Tryz.underlying163
 a50:=Tryz.isAgg163
 z50:=Tryz.sizeOf163
 v50:=Tryz.zeroValue163
 t53:=Tryz.underlying339
 a53:=Tryz.isAgg339
 z53:=Tryz.sizeOf339
 v53:=Tryz.zeroValue339
 t55:=Tryz.underlying155
 a55:=Tryz.isAgg155
 z55:=Tryz.sizeOf155
 v55:=Tryz.zeroValue155
 t66:=Tryz.underlying359
 a66:=Tryz.isAgg359
 z66:=Tryz.sizeOf359
 v66:=Tryz.zeroValue359
 t70:=Tryz.underlying354
 a70:=Tryz.isAgg354
 z70:=Tryz.sizeOf354
 v70:=Tryz.zeroValue354
 t76:=Tryz.underlying377
 a76:=Tryz.isAgg377
 z76:=Tryz.sizeOf377
 v76:=Tryz.zeroValue377
 t77:=Tryz.underlying378
 a77:=Tryz.isAgg378
 z77:=Tryz.sizeOf378
 v77:=Tryz.zeroValue378 }
def Tryz.laysSG_ren:Go.Shelf.Ren:=⟨fun|6=>348|15=>279|14=>371|28=>326|29=>327|20=>378|21=>379|22=>380|23=>381|24=>382|25=>383|26=>384|27=>385|46=>387|47=>352|48=>353|49=>388|50=>389|57=>390|n=>n,fun|22=>23|24=>55|25=>123|3=>3|39=>302|0=>0|53=>339|55=>155|4=>4|46=>333|45=>332|50=>163|5=>5|9=>9|66=>359|70=>354|76=>377|77=>378|n=>n,fun|n=>n⟩
theorem Tryz.laysSG:Go.Proofs.SlLaysF0.n6 Tryz.prog Tryz.laysSG_ren:={
 mixed:=by kernel_rfl
 f6:=⟨Tryz.f348.name,by decide,Tryz.func348.trans (congrArg some (by kernel_rfl))⟩
 f14:=⟨Tryz.f371.name,by decide,Tryz.func371.trans (congrArg some (by kernel_rfl))⟩
 f15:=Tryz.func279.trans (congrArg some (by kernel_rfl))
 f20:=⟨Tryz.f378.name,by decide,Tryz.func378.trans (congrArg some (by kernel_rfl))⟩
 f21:=⟨Tryz.f379.name,by decide,Tryz.func379.trans (congrArg some (by kernel_rfl))⟩
 f22:=⟨Tryz.f380.name,by decide,Tryz.func380.trans (congrArg some (by kernel_rfl))⟩
 f23:=⟨Tryz.f381.name,by decide,Tryz.func381.trans (congrArg some (by kernel_rfl))⟩
 f24:=⟨Tryz.f382.name,by decide,Tryz.func382.trans (congrArg some (by kernel_rfl))⟩
 f25:=⟨Tryz.f383.name,by decide,Tryz.func383.trans (congrArg some (by kernel_rfl))⟩
 f26:=⟨Tryz.f384.name,by decide,Tryz.func384.trans (congrArg some (by kernel_rfl))⟩
 f27:=⟨Tryz.f385.name,by decide,Tryz.func385.trans (congrArg some (by kernel_rfl))⟩
 f28:=Tryz.func326.trans (congrArg some (by kernel_rfl))
 f29:=Tryz.func327.trans (congrArg some (by kernel_rfl))
 f46:=⟨Tryz.f387.name,by decide,Tryz.func387.trans (congrArg some (by kernel_rfl))⟩
 f47:=Tryz.func352.trans (congrArg some (by kernel_rfl))
 f48:=Tryz.func353.trans (congrArg some (by kernel_rfl))
 f49:=⟨Tryz.f388.name,by decide,Tryz.func388.trans (congrArg some (by kernel_rfl))⟩
 f50:=⟨Tryz.f389.name,by decide,Tryz.func389.trans (congrArg some (by kernel_rfl))⟩
 f57:=⟨Tryz.f390.name,by decide,Tryz.func390.trans (congrArg some (by kernel_rfl))⟩
 t0:=Tryz.underlying0
 a0:=Tryz.isAgg0
 z0:=Tryz.sizeOf0
 v0:=Tryz.zeroValue0
 t3:=Tryz.underlying3
 a3:=Tryz.isAgg3
 z3:=Tryz.sizeOf3
 v3:=Tryz.zeroValue3
 t4:=Tryz.underlying4
 a4:=Tryz.isAgg4
 z4:=Tryz.sizeOf4
 v4:=Tryz.zeroValue4
 t5:=Tryz.underlying5
 a5:=Tryz.isAgg5
 z5:=Tryz.sizeOf5
 v5:=Tryz.zeroValue5
 t9:=Tryz.underlying9
 a9:=Tryz.isAgg9
 z9:=Tryz.sizeOf9
 v9:=Tryz.zeroValue9
 t22:=Tryz.underlying23
 a22:=Tryz.isAgg23
 z22:=Tryz.sizeOf23
 v22:=Tryz.zeroValue23
 t25:=Tryz.underlying123
 a25:=Tryz.isAgg123
 z25:=Tryz.sizeOf123
 v25:=Tryz.zeroValue123
 t39:=Tryz.underlying302
 a39:=Tryz.isAgg302
 z39:=Tryz.sizeOf302
 v39:=Tryz.zeroValue302
 t45:=Tryz.underlying332
 a45:=Tryz.isAgg332
 z45:=Tryz.sizeOf332
 v45:=Tryz.zeroValue332
 t46:=Tryz.underlying333
 a46:=Tryz.isAgg333
 z46:=Tryz.sizeOf333
 v46:=Tryz.zeroValue333
 t50:=Tryz.underlying163
 a50:=Tryz.isAgg163
 z50:=Tryz.sizeOf163
 v50:=Tryz.zeroValue163
 t53:=Tryz.underlying339
 a53:=Tryz.isAgg339
 z53:=Tryz.sizeOf339
 v53:=Tryz.zeroValue339
 t55:=Tryz.underlying155
 a55:=Tryz.isAgg155
 z55:=Tryz.sizeOf155
 v55:=Tryz.zeroValue155
 t66:=Tryz.underlying359
 a66:=Tryz.isAgg359
 z66:=Tryz.sizeOf359
 v66:=Tryz.zeroValue359
 t70:=Tryz.underlying354
 a70:=Tryz.isAgg354
 z70:=Tryz.sizeOf354
 v70:=Tryz.zeroValue354
 t76:=Tryz.underlying377
 a76:=Tryz.isAgg377
 z76:=Tryz.sizeOf377
 v76:=Tryz.zeroValue377
 t77:=Tryz.underlying378
 a77:=Tryz.isAgg378
 z77:=Tryz.sizeOf378
 v77:=Tryz.zeroValue378 }
def Tryz.laysSI_ren:Go.Shelf.Ren:=⟨fun|189=>290|125=>279|257=>328|128=>326|129=>327|294=>356|295=>357|296=>358|297=>359|298=>360|299=>361|216=>362|300=>363|301=>364|328=>373|329=>352|330=>353|331=>374|332=>375|215=>203|343=>386|n=>n,fun|28=>43|3=>3|46=>302|0=>0|51=>339|53=>155|4=>4|183=>333|182=>332|131=>163|5=>5|9=>9|218=>359|222=>354|228=>377|229=>378|n=>n,fun|n=>n⟩
theorem Tryz.laysSI:Go.Proofs.Lays.n189 Tryz.prog Tryz.laysSI_ren:={
 mixed:=by kernel_rfl
 f125:=Tryz.func279.trans (congrArg some (by kernel_rfl))
 f128:=Tryz.func326.trans (congrArg some (by kernel_rfl))
 f129:=Tryz.func327.trans (congrArg some (by kernel_rfl))
 f189:=Tryz.func290.trans (congrArg some (by kernel_rfl))
 f215:=Tryz.func203.trans (congrArg some (by kernel_rfl))
 f216:=Tryz.func362.trans (congrArg some (by kernel_rfl))
 f257:=Tryz.func328.trans (congrArg some (by kernel_rfl))
 f294:=Tryz.func356.trans (congrArg some (by kernel_rfl))
 f295:=Tryz.func357.trans (congrArg some (by kernel_rfl))
 f296:=Tryz.func358.trans (congrArg some (by kernel_rfl))
 f297:=Tryz.func359.trans (congrArg some (by kernel_rfl))
 f298:=Tryz.func360.trans (congrArg some (by kernel_rfl))
 f299:=Tryz.func361.trans (congrArg some (by kernel_rfl))
 f300:=Tryz.func363.trans (congrArg some (by kernel_rfl))
 f301:=Tryz.func364.trans (congrArg some (by kernel_rfl))
 f328:=Tryz.func373.trans (congrArg some (by kernel_rfl))
 f329:=Tryz.func352.trans (congrArg some (by kernel_rfl))
 f330:=Tryz.func353.trans (congrArg some (by kernel_rfl))
 f331:=Tryz.func374.trans (congrArg some (by kernel_rfl))
 f332:=Tryz.func375.trans (congrArg some (by kernel_rfl))
 f343:=Tryz.func386.trans (congrArg some (by kernel_rfl))
 t0:=Tryz.underlying0
 a0:=Tryz.isAgg0
 z0:=Tryz.sizeOf0
 v0:=Tryz.zeroValue0
 t3:=Tryz.underlying3
 a3:=Tryz.isAgg3
 z3:=Tryz.sizeOf3
 v3:=Tryz.zeroValue3
 t4:=Tryz.underlying4
 a4:=Tryz.isAgg4
 z4:=Tryz.sizeOf4
 v4:=Tryz.zeroValue4
 t5:=Tryz.underlying5
 a5:=Tryz.isAgg5
 z5:=Tryz.sizeOf5
 v5:=Tryz.zeroValue5
 t9:=Tryz.underlying9
 a9:=Tryz.isAgg9
 z9:=Tryz.sizeOf9
 v9:=Tryz.zeroValue9
 t28:=Tryz.underlying43
 a28:=Tryz.isAgg43
 z28:=Tryz.sizeOf43
 v28:=Tryz.zeroValue43
 t46:=Tryz.underlying302
 a46:=Tryz.isAgg302
 z46:=Tryz.sizeOf302
 v46:=Tryz.zeroValue302
 t51:=Tryz.underlying339
 a51:=Tryz.isAgg339
 z51:=Tryz.sizeOf339
 v51:=Tryz.zeroValue339
 t53:=Tryz.underlying155
 a53:=Tryz.isAgg155
 z53:=Tryz.sizeOf155
 v53:=Tryz.zeroValue155
 t131:=Tryz.underlying163
 a131:=Tryz.isAgg163
 z131:=Tryz.sizeOf163
 v131:=Tryz.zeroValue163
 t182:=Tryz.underlying332
 a182:=Tryz.isAgg332
 z182:=Tryz.sizeOf332
 v182:=Tryz.zeroValue332
 t183:=Tryz.underlying333
 a183:=Tryz.isAgg333
 z183:=Tryz.sizeOf333
 v183:=Tryz.zeroValue333
 t218:=Tryz.underlying359
 a218:=Tryz.isAgg359
 z218:=Tryz.sizeOf359
 v218:=Tryz.zeroValue359
 t222:=Tryz.underlying354
 a222:=Tryz.isAgg354
 z222:=Tryz.sizeOf354
 v222:=Tryz.zeroValue354
 t228:=Tryz.underlying377
 a228:=Tryz.isAgg377
 z228:=Tryz.sizeOf377
 v228:=Tryz.zeroValue377
 t229:=Tryz.underlying378
 a229:=Tryz.isAgg378
 z229:=Tryz.sizeOf378
 v229:=Tryz.zeroValue378 }
def Tryz.laysDel_ren:Go.Shelf.Ren:=⟨fun|45=>345|n=>n,fun|22=>43|23=>3|3=>3|4=>4|0=>0|n=>n,fun|n=>n⟩
theorem Tryz.laysDel:Go.Proofs.SlLaysN.n45 Tryz.prog Tryz.laysDel_ren:={
 mixed:=by kernel_rfl
 f45:=⟨Tryz.f345.name,by decide,Tryz.func345.trans (congrArg some (by kernel_rfl))⟩
 t0:=Tryz.underlying0
 a0:=Tryz.isAgg0
 z0:=Tryz.sizeOf0
 v0:=Tryz.zeroValue0
 t3:=Tryz.underlying3
 a3:=Tryz.isAgg3
 z3:=Tryz.sizeOf3
 v3:=Tryz.zeroValue3
 t4:=Tryz.underlying4
 a4:=Tryz.isAgg4
 z4:=Tryz.sizeOf4
 v4:=Tryz.zeroValue4
 t22:=Tryz.underlying43
 a22:=Tryz.isAgg43
 z22:=Tryz.sizeOf43
 v22:=Tryz.zeroValue43
 t23:=Tryz.underlying3
 a23:=Tryz.isAgg3
 z23:=Tryz.sizeOf3
 v23:=Tryz.zeroValue3
 i23:=by kernel_rfl }
end Go.Proofs
namespace Go.Va
open Go.Proofs Go.Shelf Go.RowKit Go.Lib Go.Sort
theorem Ext.drewN(w:World)(q:Nat):Ext w (w.drewN q):=⟨⟨rfl,rfl,rfl,Az _,fun _ _=>rfl⟩,Nat.le_add_right _ _⟩
theorem Ext.grow(w:World)(os:Array Obj):Ext w (Go.Sort.grow w os):=
 ⟨⟨rfl,rfl,rfl,by simp[Go.Sort.grow],fun k hk=>by simp[Go.Sort.grow,Array.getElem?_append,hk]⟩,Az _⟩
theorem Ext.asGrow{w w':World}(h:Ext w w'): ∃q os,w'=Go.Sort.grow (w.drewN q) os:=by
 refine⟨w'.drawn - w.drawn,w'.heap.extract w.heap.size w'.heap.size,?_⟩
 have hd:=h.drawn;have ho:=h.os;have ht:=h.tape;have hu:=h.output;have hs:=h.size;have hb:=h.block;have hh:w'.heap=w.heap++w'.heap.extract w.heap.size w'.heap.size:=by
  apply Array.ext_getElem?
  intro k;by_cases hk:k<w.heap.size
  ·rw[hb k hk,Array.getElem?_append_left hk]
  ·rw[Array.getElem?_append_right (by omega),Array.getElem?_extract]
   by_cases hk2:k<w'.heap.size
   ·rw[if_pos (by omega),show w.heap.size+(k - w.heap.size)=k by omega]
   ·rw[if_neg (by omega),Array.getElem?_eq_none (by omega)]
 obtain⟨heap,tape,drawn,os,output⟩:=w
 obtain⟨heap',tape',drawn',os',output'⟩:=w'
 simp only at hd ho ht hu hs hb hh;simp only[Go.Sort.grow,World.drewN];subst ho ht hu;rw[←hh,show drawn+(drawn' - drawn)=drawn' by omega]
theorem MB{ρ:As}{w:World}{Z:Addr→Prop}{h:List (Nat×Blk)}(hZ: ∀ad,Z ad→ad.block<w.heap.size)(hh:Heap ρ w Z h)(hcz: ∀ad,Cells ρ ad→ ¬Z ad)
  {i:Nat} {o:Own} (hi:ρ i=some o) (hn:o.gone=false) {sz:Nat} {cs cs':List D} {app:Bool} (hb:RepB ρ w Z o (.row sz cs app)) {vs:List Value} (hl:vs.length=cs.length)
  (hr:RepL (RepD w (Aj ρ Z)) cs' vs) (q:Nat) (os:Array Obj):
  Fr (Cells ρ) w (Go.Sort.grow ((w.drewN q).setCells o.g o.o vs) os)∧Heap ρ (Go.Sort.grow ((w.drewN q).setCells o.g o.o vs) os) Z ((i,.row sz cs' app)::rm i h):=by
 have hrel:Rel (Cells ρ) Z w ρ ⟨[],h⟩ { tmps:= #[],defers:=[] } w:=
  {fr:=⟨rfl,Az _,rfl,rfl,Az _,fun a v _ h=>h,fun _ _=>rfl,fun _ _ _=>rfl⟩
   heap:=hh
   mine:=fun j o' ad hj ho=> .inl ⟨j,o',hj,ho⟩
   out:=hZ
   mz:=hcz
   tmps:=fun t v hv=>by cases hv
   defers:=rfl }
 have h1:=hrel.ext (Ext.drewN w q);obtain⟨hs,happ,hlen,hnil,hc⟩:=hb;have hfit:0+vs.length≤o.room*o.sz:=by rw[hs,Nat.zero_add,hl];exact hlen
 have h2:=h1.write hi hn (off:=0) (vs:=vs) (by simpa using hfit) (b:= .row sz cs' app) (fun hk=>by
  refine⟨hs,happ,by rw[hr.1,hl];exact hlen,hnil,fun j x hx=> ?_⟩
  have hj:j<vs.length:=by rw[←hr.1];exact(jzg.1 hx).1
  have hin:=World.cell?_setCells_in o.g vs o.o (w.drewN q) (fun p hp=>by
   obtain⟨v,hv,_⟩:=hc p (cs[p]'(by omega)) (Am (by omega))
   show(w.cell? _).isSome=true
   rw[hv];rfl) j hj
  refine⟨vs[j],by simpa [Own.at]using hin,?_⟩
  exact RepD.keep (by simpa using hk) (RepD.keep (Keep.ext (Ext.drewN w q) _) (hr.2 j x _ hx (Am hj))))
 have h3:=h2.ext (Ext.grow _ os);exact⟨by simpa using h3.fr,by simpa [St.blk]using h3.heap⟩
theorem OM{ρ:As}{w:World}{Z:Addr→Prop}{i n:Nat}{v:Value}(h:RepC ρ w Z (.sl i 0 n) v)(hn:0<n): ∃o c,ρ i=some o∧o.nil=false∧n≤o.room∧v= .slice (some ⟨o.g,o.o,none⟩) n c:=by
 obtain⟨o,h1,h2,h3⟩:=h
 rcases h3 with⟨_,_,_,h4⟩|⟨h4,a,c,rfl,h5,h6,h7,h8⟩
 ·omega
 ·rcases h7 with h7|h7
  ·omega
  ·refine⟨o,c,h1,h4,by omega,?_⟩
   rw[h7]
   simp[Own.at]
def CI(l:List Int):List Int:=l.mergeSort fun x y=>decide (x≤y)
theorem Gf(l:List Int):(CI l).length=l.length:=(List.mergeSort_perm _ _).length_eq
theorem jfI{l m:List Int}(hp:m.Perm l)(hs:m.Pairwise (· ≤ ·)):m=CI l:=by
 have h:=List.pairwise_mergeSort (le:=fun x y:Int=>decide (x≤y)) (fun a b c h1 h2=>by simp at*;omega) (fun a b=>by simp;omega) l
 refine List.Perm.eq_of_pairwise (le:=fun a b:Int=>a≤b) (fun a b _ _ h1 h2=>by omega) hs ?_ (hp.trans (List.mergeSort_perm _ _).symm)
 exact h.imp fun h=>by simpa using h
theorem Om{w:World}{Z:Addr→Prop}(l:List Int):RepL (RepD w Z) (l.map i64) (l.map (Value.int .i64)):=by
 refine⟨by simp,fun j x v hx hv=> ?_⟩
 simp only[Bi,jze]at hx hv;obtain⟨a,ha,rfl⟩:=hx;obtain⟨b,hb,rfl⟩:=hv;rw[ha]at hb;cases hb;exact .int _ _
theorem TO(i:Nat)(l:List Int)(app:Bool)(h0:l≠[])(hl:l.length≤1099511627776):
  DZ Tryz.prog 290 [.c (.sl i 0 l.length)] [(i,.row 1 (l.map i64) app)] [(i,.row 1 ((CI l).map i64) app)] (.tup []):=by
 have hpos:0<l.length:=List.length_pos_iff.2 h0;refine⟨⟨_,Tryz.func290,rfl,by decide⟩,rfl,fun w Z ρ vals hZ hh hcz hρ hv=> ?_⟩
 obtain⟨v,rfl⟩: ∃v,vals=[v]:=by
  have:=hv.1
  match vals,this with
  |[v],_=>exact⟨v,rfl⟩
 obtain⟨o,c,ho,hnil,hroom,rfl⟩:=OM (w:=w) (Z:=Z) (hv.2 0 _ _ rfl rfl) hpos
 obtain⟨o',ho',hb⟩:=hh.rep i (.row 1 (l.map i64) app) (by simp[lk])
 rw[ho]at ho'
 cases ho'
 have hb':=hb;obtain⟨hsz,happ,hlen,⟨hn1,hn2⟩,hc⟩:=hb';have hgone:o.gone=false:=by rw[hn2];exact hnil
 have hval: ∀j (hj:j<l.length),w.cell? ⟨o.g,o.o+j,none⟩=some (.int .i64 l[j]):=fun j hj=>by
  obtain⟨v,h1,h2⟩:=hc j (i64 l[j]) (by simp[hj])
  cases h2;exact h1
 have hH:Holds (Value.int .i64) w o.g o.o l.toArray:=fun j hj=>by
  have hj':j<l.length:=by simpa using hj
  refine⟨?_,(hh.owns.cells i o ho hgone j (by rw[hsz];omega)).2⟩
  rw[hval j hj']
  simp[hj']
 have hblk:o.g<w.heap.size:=World.block_lt_of_cell? w _ (hval 0 hpos);have hcon:=Any.slices_Sort_int Tryz.laysSI o.g o.o c l w hH hblk (by omega)
 refine hcon.mono fun e w' ⟨he,n,os,hw⟩=> ?_
 rw[putRow_eq_setCells (Value.int .i64) w o.g o.o l.toArray _ n hH (by simp[List.length_mergeSort])]at hw
 have ht:=MB hZ hh hcz ho hgone hb (vs:=(CI l).map (Value.int .i64)) (cs':=(CI l).map i64) (by simp[Gf]) (Om _) n os
 subst hw;have ht2:=ht.2;simp only[rm,if_true]at ht2;refine⟨_,he,ht.1,ht2,[],rfl,by simp[RepL],fun j x v hx=>by simp at hx⟩
structure Fct.Rt (f:Fct):Prop where
 ok:CU f=true
 mild:f.Mild
theorem Sd{a:List Nat}(ha:Ok a)(h:lastOk a=true):a=limbs (val a):=by
 rw[←Gk a ha]
 rcases Nat.eq_zero_or_pos a.length with h0|h0
 ·have:a=[]:=jzv.1 h0
  subst this;rfl
 ·obtain⟨n,hn⟩: ∃n,a.length=n+1:=⟨a.length - 1,by omega⟩
  unfold lastOk at h;rw[List.getLast?_eq_getElem?,hn]at h;simp only[Nat.add_sub_cancel,decide_eq_true_eq]at h;have:Bd a a.length=a.length:=by
   rw[hn]
   unfold Bd;rw[if_neg];rw[Am (by omega)]at h
   rw[Ax,Am (by omega)]
   simpa using h
  rw[this,B1]
theorem Fu{neg:Bool}{a b:List Nat}(h:ratOk neg a b=true)(ha:Ok a)(hb:Ok b):
  a=limbs (val a)∧b=limbs (val b)∧val b≠0∧Nat.gcd (val a) (val b)=1∧(neg=true→val a≠0):=by
 unfold ratOk at h;simp only[AC,Bool.not_eq_true',decide_eq_true_eq,Bool.and_eq_false_iff,decide_eq_false_iff_not]at h;obtain⟨⟨⟨⟨h1,h2⟩,h3⟩,h4⟩,h5⟩:=h;have ea:=Sd ha h1;have eb:=Sd hb h4;refine⟨ea,eb,fun h0=>h3 ?_,h5,fun hn h0=> ?_⟩
 ·rw[eb,h0];rfl
 ·rcases h2 with h2|h2
  ·rw[hn]at h2;cases h2
  ·exact h2 (by rw[ea,h0];rfl)
theorem jkp{m d n e:Nat}(h1:Nat.gcd m d=1)(h2:Nat.gcd n e=1)(d0:d≠0)(e0:e≠0)(h:m*e=n*d):m=n∧d=e:=by
 have a1:m∣n:=Nat.Coprime.dvd_of_dvd_mul_right (k:=m) (n:=d) h1 ⟨e,h.symm⟩;have a2:n∣m:=Nat.Coprime.dvd_of_dvd_mul_right (k:=n) (n:=e) h2 ⟨d,h⟩;have a3:d∣e:=Nat.Coprime.dvd_of_dvd_mul_left (k:=d) (m:=m) (by rw[Nat.Coprime,Nat.gcd_comm];exact h1) ⟨n,by rw[h,Nat.mul_comm]⟩
 have a4:e∣d:=Nat.Coprime.dvd_of_dvd_mul_left (k:=e) (m:=n) (by rw[Nat.Coprime,Nat.gcd_comm];exact h2) ⟨m,by rw[←h,Nat.mul_comm]⟩
 exact⟨Nat.dvd_antisymm a1 a2,Nat.dvd_antisymm a3 a4⟩
theorem We{na nb:Bool}{m d n e:Nat}(h:toZ na m*(e:Int)=toZ nb n*(d:Int))(d0:d≠0)(e0:e≠0):m*e=n*d∧(m=0∨na=nb):=by
 have p:0≤(m:Int)*e:=by exact_mod_cast Nat.zero_le _
 have q:0≤(n:Int)*d:=by exact_mod_cast Nat.zero_le _
 have z:(m:Int)*e=0→m=0:=fun h=>by
  have:m*e=0:=by exact_mod_cast h
  rcases Nat.mul_eq_zero.1 this with h|h
  ·exact h
  ·exact absurd h e0
 unfold toZ at h;cases na<;>cases nb<;>simp only[if_true,if_false,Int.neg_mul,Bool.false_eq_true]at h
 ·exact⟨by exact_mod_cast h,.inr rfl⟩
 ·have h1:(m:Int)*e=n*d:=by omega
  exact⟨by exact_mod_cast h1,.inl (z (by omega))⟩
 ·have h1:(m:Int)*e=n*d:=by omega
  exact⟨by exact_mod_cast h1,.inl (z (by omega))⟩
 ·have h1:(m:Int)*e=n*d:=by omega
  exact⟨by exact_mod_cast h1,.inr rfl⟩
theorem Fct.Rt.parts{f:Fct}(h:f.Rt):arity f.kind≠0∧f.args.length=arity f.kind∧(∀a∈f.args,0≤a∧a<40)∧
  (if f.kind=9 then ratOk f.neg f.abs f.den=true else f.neg=false∧f.abs=[]∧f.den=[]):=by
 have:=h.ok
 unfold CU IM at this;simp only[decide_eq_true_eq]at this;by_cases h1:arity f.kind=0
 ·rw[if_pos h1]at this;cases this
 rw[if_neg h1]at this
 by_cases h2:f.args.length≠arity f.kind
 ·rw[if_pos h2]at this;cases this
 rw[if_neg h2]at this
 by_cases h3:f.args.any (fun a=>decide (a<0)||decide (40≤a))=true
 ·rw[if_pos h3]at this;cases this
 rw[if_neg h3]at this
 refine⟨h1,by omega,fun a ha=> ?_,?_⟩
 ·simp only[List.any_eq_true,not_exists,Bool.or_eq_true,decide_eq_true_eq,not_and,not_or]at h3;have:=h3 a ha;omega
 ·by_cases h9:f.kind=9
  ·rw[if_pos h9]at this ⊢
   by_cases h4:ratOk f.neg f.abs f.den=true
   ·exact h4
   ·rw[if_neg h4]at this;cases this
  ·rw[if_neg h9]at this ⊢
   by_cases h4:GI f.neg f.abs f.den=true
   ·unfold GI at h4;simp only[AC,Bool.not_eq_true',decide_eq_true_eq]at h4;exact⟨h4.1.1,h4.1.2,h4.2⟩
   ·rw[if_neg h4]at this;cases this
theorem Fct.Rt.num{f:Fct}(h:f.Rt):f.Num:=fun h9=>by
 have:=h.parts.2.2.2
 rw[if_pos h9]at this
 exact(Fu this h.mild.oa h.mild.od).2.2.1
theorem Fct.ext'{f g:Fct}(h1:f.kind=g.kind)(h2:f.args=g.args)(h3:f.neg=g.neg)(h4:f.abs=g.abs)(h5:f.den=g.den):f=g:=by
 cases f;cases g;simp only at h1 h2 h3 h4 h5;subst h1 h2 h3 h4 h5;rfl
theorem K0{f g:Fct}(hf:f.Rt)(hg:g.Rt):BC f g=0↔f=g:=by
 constructor
 ·intro h;rw[PJ]at h;by_cases h0:cmpK f g=0
  ·obtain⟨k1,k2⟩:=cmpK_zero.1 h0
   rw[if_neg (by simp[h0])]at h
   have p:=hf.parts.2.2.2;have q:=hg.parts.2.2.2;by_cases h9:f.kind=9
   ·rw[if_pos h9]at h p
    rw[if_pos (by omega)]at q
    obtain⟨a1,a2,a3,a4,a5⟩:=Fu p hf.mild.oa hf.mild.od
    obtain⟨b1,b2,b3,b4,b5⟩:=Fu q hg.mild.oa hg.mild.od
    have hc:=(HK _ _).1 h;obtain⟨c1,c2⟩:=We hc a3 b3;obtain⟨e1,e2⟩:=jkp a4 b4 a3 b3 c1;refine Fct.ext' k1 k2 ?_ (by rw[a1,b1,e1]) (by rw[a2,b2,e2])
    rcases c2 with c2|c2
    ·cases hn:f.neg with
     |true=>exact absurd c2 (a5 hn)
     |false=>
      cases hn':g.neg with
      |true=>exact absurd (e1 ▸ c2) (b5 hn')
      |false=>rfl
    ·exact c2
   ·rw[if_neg h9]at p
    rw[if_neg (by omega)]at q
    exact Fct.ext' k1 k2 (by rw[p.1,q.1]) (by rw[p.2.1,q.2.1]) (by rw[p.2.2,q.2.2])
  ·rw[if_pos h0]at h
   exact absurd h h0
 ·rintro rfl
  exact isCmp_F.self hf.num
theorem jfV(l:List Int)(i:Nat)(hi:i<l.length)(hl:l.length≤1099511627776):
  CallsA Tryz.prog 345 1 l.length (l.map i64) [.c (.int .i64 i),.c (.int .i64 (i+1:Int))] (l.length - 1) ((l.eraseIdx i).map i64):=by
 have hpos:0<l.length:=by omega
 refine⟨⟨_,Tryz.func345,rfl,by decide⟩,fun w Z ρ k v0 vals hZ hh hcz hone hv0 hv=> ?_⟩
 obtain⟨v1,v2,rfl⟩: ∃v1 v2,vals=[v1,v2]:=by
  have:=hv.1
  match vals,this with
  |[v1,v2],_=>exact⟨v1,v2,rfl⟩
 have e1:v1= .int .i64 (i:Int):=by
  have h2:RepD w (Aj ρ Z) (.int .i64 i) v1:=hv.2 0 _ _ rfl rfl;cases h2;rfl
 have e2:v2= .int .i64 ((i+1:Nat):Int):=by
  have h2:RepD w (Aj ρ Z) (.int .i64 (i+1:Int)) v2:=hv.2 1 _ _ rfl rfl;cases h2;rfl
 subst e1 e2;obtain⟨o,ho,hroom,hcase⟩:=hv0;obtain⟨o',ho',hb⟩:=hh.rep k (.row 1 (l.map i64) true) (by simp[lk])
 obtain rfl:o'=o:=AK (ho'.symm.trans ho);have hb':=hb;obtain⟨hsz,happ,hlen,⟨hn1,hn2⟩,hc⟩:=hb';rcases hcase with⟨_,_,_,h4⟩|⟨hnil,a,c,rfl,hnc,hcm,had,hcap⟩
 ·omega
 have hgone:o'.gone=false:=by rw[hn2];exact hnil
 have hval: ∀j (hj:j<l.length),w.cell? ⟨o'.g,o'.o+j,none⟩=some (.int .i64 l[j]):=fun j hj=>by
  obtain⟨v,h1,h2⟩:=hc j (i64 l[j]) (by simp[hj])
  cases h2;exact h1
 have hH:Holds (Value.int .i64) w o'.g o'.o l.toArray:=fun j hj=>by
  have hj':j<l.length:=by simpa using hj
  refine⟨?_,(hh.owns.cells k o' ho hgone j (by rw[hsz];omega)).2⟩
  rw[hval j hj']
  simp[hj']
 have ha:a=⟨o'.g,o'.o,none⟩:=by
  rcases had with h|h
  ·omega
  ·rw[h];simp[Own.at]
 subst ha;have hcon:=AnyG.slices_Delete_int Tryz.laysDel o'.g o'.o c i (i+1) l w hH hnc (by unfold maxLen at hcm;omega) (by omega) (by omega)
 refine hcon.mono fun e w' ⟨he,q,hw⟩=> ?_
 have hnew:l.take i++l.drop (i+1)++List.replicate (i+1 - i) 0=l.eraseIdx i++[0]:=by
  rw[List.eraseIdx_eq_take_drop_succ,show i+1 - i=1 by omega];rfl
 rw[hnew]at hw
 have hlen2:(l.eraseIdx i).length=l.length - 1:=List.length_eraseIdx_of_lt hi
 rw[putRow_eq_setCells (Value.int .i64) w o'.g o'.o l.toArray _ q hH (by simp[hlen2];omega)]at hw
 have ht:=MB hZ hh hcz ho hgone hb (vs:=(l.eraseIdx i++[0]).map (Value.int .i64)) (cs':=(l.eraseIdx i++[0]).map i64) (by simp[hlen2];omega) (Om _) q #[]
 have hg:Go.Sort.grow ((w.drewN q).setCells o'.g o'.o ((l.eraseIdx i++[0]).map (Value.int .i64))) #[]=w':=by
  rw[hw];simp[Go.Sort.grow,Sort.ahead]
 rw[hg]at ht
 have ht2:=ht.2;simp only[rm,if_true]at ht2;refine⟨_,he,ρ,ht.1,⟨ht2.owns,fun j b hjb=> ?_⟩,hone,fun ad h=> .inl h,o',ho,by omega,.inr ⟨hnil,_,c,by rw[show i+1 - i=1 by omega],by omega,hcm,.inr (by simp[Own.at]),hcap⟩⟩
 by_cases e:j=k
 ·subst e;rw[AR]at hjb;cases hjb;obtain⟨o2,ho2,q1,q2,q3,q4,q5⟩:=ht2.rep j _ (AR _ _ _);refine⟨o2,ho2,q1,q2,by simp at q3 ⊢;omega,q4,fun t x hx=>q5 t x ?_⟩
  rw[List.map_append,List.getElem?_append_left (jzg.1 hx).1]
  exact hx
 ·rw[AW e]at hjb;cases hjb
end Go.Va
