/- a part of the proof -/
import Derived.Test.YtplacedebenpaaaGreatDoorEat
import Derived.Test.YtplacedebenpaaaGreatDoorEah
import Derived.Test.YtplacedebenpaaaGreatDoorEaa
import Derived.Lib.ItoaNum
import Derived.Shelf.SlGeneric
import Derived.Shelf.SlSortCmp.NoneTotal
import Derived.Shelf.Slices.In.SortNone
import Derived.Shelf.SlicesG.Delete
import Derived.Test.YtplacedebenpaaaGreatDoorProg
import Derived.Shelf.Strings.BuilderK
import Derived.Shelf.Strings.OnBuilder
import Derived.Shelf.Strings.Cut
import Derived.Shelf.Strings.Split
import Derived.Shelf.Strconv.Atoi
import Derived.Shelf.Strconv.Itoa3
import Derived.WalkKit
import Derived.BigCall
import Derived.Test.YtplacedebenpaaaGreatDoorEao
import Derived.Test.YtplacedebenpaaaGreatDoorEam
import Derived.Test.YtplacedebenpaaaGreatDoorEar
import Derived.Lib.Join
set_option linter.all false
set_option maxHeartbeats 4000000
set_option maxRecDepth 100000
namespace Go.Va
open Int renaming natCast_add → qA, natCast_mul → qB
open List renaming reduceReplicate → qF
open Go.Proofs Go.Proofs.Tryz
theorem jio(n:Int):CallsF prog 203 [.c (.int .i64 n)] (RRul.res (if 15<=n/\n<=28 then MW n.toNat else .zero)):=by
 refine cO func203 rfl ?_;simp -implicitDefEqProofs[jJ,-qA,-qB]
 repeat ((first|refine .inl ⟨_,FH _ _,?_⟩|refine .inl ⟨_,FJ _ _,?_⟩);simp -implicitDefEqProofs[jJ,-qA,-qB])
 by_cases e:n=15
 rotate_left
 by_cases f:n=16
 rotate_left
 by_cases a:n=17
 ·subst a;simp -implicitDefEqProofs[jJ,-qA,-qB];refine AA (Ah [0,1,3,3,11,0,32,127,255]) [.any [] [30,32] (AG [30,32] [[],[]]++[⟨1,[28,29],[32],[32],[]⟩,⟨0,[],[30],[30,32],[]⟩,⟨1,[31],[30],[30],[]⟩,⟨0,[3],[30,32],[30,32],[]⟩,⟨0,[33],[30,32],[30,32],[]⟩]),.one,.one] O5 ?_;simp -implicitDefEqProofs[jJ,-qA,-qB]
  repeat ((first|refine .inl ⟨_,FH _ _,?_⟩|refine .inl ⟨_,FJ _ _,?_⟩|refine .inl ⟨_,U3 _,?_⟩|refine⟨_,FH _ _,?_⟩|refine⟨_,FJ _ _,?_⟩);simp -implicitDefEqProofs[jJ,-qA,-qB])
  try simp[RRul.res,RRul.ds,MW,CQ,RPat.ds,bs]
  try rfl
 by_cases g:n=18
 rotate_left
 by_cases b:n=19
 ·subst b;simp -implicitDefEqProofs[jJ,-qA,-qB];refine AA (Ah [0,1,1,5,0,16,63,127]) [.any [] [47,49] [⟨0,[],[],[47,49],[]⟩,⟨1,[46],[49],[49],[]⟩,⟨0,[],[47],[47,49],[]⟩,⟨1,[48],[47],[47],[]⟩,⟨0,[3],[47,49],[47,49],[]⟩,⟨0,[50],[47,49],[47,49],[]⟩],.one,.one] O5 ?_;simp -implicitDefEqProofs[jJ,-qA,-qB]
  repeat ((first|refine .inl ⟨_,FH _ _,?_⟩|refine .inl ⟨_,FJ _ _,?_⟩|refine .inl ⟨_,U3 _,?_⟩|refine⟨_,FH _ _,?_⟩|refine⟨_,FJ _ _,?_⟩);simp -implicitDefEqProofs[jJ,-qA,-qB])
  try simp[RRul.res,RRul.ds,MW,CQ,RPat.ds,bs]
  try rfl
 by_cases h:n=20
 rotate_left
 by_cases i:n=21
 rotate_left
 by_cases j:n=22
 rotate_left
 by_cases k:n=23
 rotate_left
 by_cases l:n=24
 rotate_left
 by_cases m:n=25
 rotate_left
 by_cases o:n=26
 rotate_left
 by_cases p:n=27
 rotate_left
 by_cases q:n=28
 rotate_left
 have r: ¬(15<=n/\n<=28):=O;rw[if_neg r];simp -implicitDefEqProofs[jJ,-qA,-qB,e,f,a,g,b,h,i,j,k,l,m,o,p,q]
 try simp[RRul.res,RRul.ds,RRul.zero,CQ,bs]
 try rfl
 all_goals
  subst n;simp -implicitDefEqProofs[jJ,-qA,-qB]
  repeat ((first|refine .inl ⟨_,FH _ _,?_⟩|refine .inl ⟨_,FJ _ _,?_⟩|refine .inl ⟨_,U3 _,?_⟩|refine⟨_,FH _ _,?_⟩|refine⟨_,FJ _ _,?_⟩);simp -implicitDefEqProofs[jJ,-qA,-qB])
  try simp[RRul.res,RRul.ds,MW,CQ,RPat.ds,bs]
  try rfl
theorem LD(n:Nat)(h:28<n):MW n= .zero:=by
 unfold MW;split<;>first|omega|rfl
theorem ZP(n:Int):CallsF prog 121 [.c (.int .i64 n)] (MW n.toNat).res:=by
 refine cO func121 rfl ?_;by_cases h:n<=14
 ·have k:=jon n;have e:(if 1<=n/\n<=14 then MW n.toNat else RRul.zero)=MW n.toNat:=by
   split
   ·rfl
   ·rw[show n.toNat=0 by omega];rfl
  rw[e]at k;generalize MW n.toNat=r at*;simp only[RRul.res,RRul.ds,CQ]at*;refine rA1 h ?_;refine Ac k ?_;exact kA
 ·have k:=jio n;have e:(if 15<=n/\n<=28 then MW n.toNat else RRul.zero)=MW n.toNat:=by
   split
   ·rfl
   ·rw[LD n.toNat O]
  rw[e]at k;generalize MW n.toNat=r at*;simp only[RRul.res,RRul.ds,CQ]at*;refine rA1 h ?_;refine Ac k ?_;exact kA
theorem jpl(n:Int):CallsF prog 117 [.c (.int .i64 n)] (.u (.c (.d (.int .i64 (if n<0\/28<n then -1 else ((MW n.toNat).frm.length:Int)))))):=by
 have b:=ZP n;generalize MW n.toNat=r at*;simp only[RRul.res,RRul.ds,CQ]at b;refine cO func117 rfl ?_;by_cases h:n<0
 ·simp -implicitDefEqProofs[jJ,-qA,-qB,-qF,h]
 ·by_cases a:28<n
  ·simp -implicitDefEqProofs[jJ,-qA,-qB,-qF,h,a]
  ·refine rF2 h a ?_;refine Ac b ?_;exact kF
theorem Wt: ∀n:Fin 29,(DW n).name=(MW n).name/\(n≠0->(DW n).name≠[]/\(DW n).count+(DW n).prem.length=(MW n).frm.length):=O6
end Go.Va
namespace Go.Va
open Go.RowKit
def back:Nat->Code->Code
 |0,c=>c
 |n+1,.seq _ y=>back n y
 |_,_=> .skip
section
variable [Gv] {P:Program} {T:AH} {X:Cx}
end
end Go.Va
namespace Go.Va
open Go

def d1(out:List UInt8)(g d:Nat):List UInt8:=if 0<out.length\/d<=g then out++[UInt8.ofNat (48+g/d%10)] else out
def d4(out:List UInt8)(g:Nat):List UInt8:=d1 (d1 (d1 (d1 out g 1000) g 100) g 10) g 1
end Go.Va
namespace Go.Proofs
open Go.Shelf
theorem LA{P:Program}{k:Nat}{a b:Func}(h:P.funcs[k]?=some a)(e:a=b:=by kernel_rfl):P.funcs[k]?=some b:=h.trans (congrArg some e)
theorem LB{P:Program}{k:Nat}{a:Func}{Q:String->Prop}{F:String->Func}(h:P.funcs[k]?=some a)(q:Q a.name:=by decide)(e:a=F a.name:=by kernel_rfl): ∃n,Q n/\P.funcs[k]?=some (F n):=⟨_,q,h.trans (congrArg some e)⟩
def Tryz.laysSF_ren:Go.Shelf.Ren:=⟨λ|6=>104|15=>55|14=>188|28=>114|29=>115|20=>288|21=>289|22=>290|23=>291|24=>292|25=>293|26=>294|27=>295|46=>355|47=>190|48=>191|49=>356|50=>357|57=>385|n=>n,λ|22=>113|24=>116|25=>174|3=>3|39=>119|0=>0|53=>183|55=>185|4=>4|46=>177|45=>176|50=>105|5=>5|9=>9|66=>251|70=>255|76=>331|77=>332|n=>n,λ|n=>n⟩
theorem Tryz.laysSF:Go.Proofs.SlLaysF0.n6 Tryz.prog Tryz.laysSF_ren:=⟨by kernel_rfl,LB Tryz.func104,LB Tryz.func188,LA Tryz.func55,LB Tryz.func288,LB Tryz.func289,LB Tryz.func290,LB Tryz.func291,LB Tryz.func292,LB Tryz.func293,LB Tryz.func294,LB Tryz.func295,LA Tryz.func114,LA Tryz.func115,LB Tryz.func355,LA Tryz.func190,LA Tryz.func191,LB Tryz.func356,LB Tryz.func357,LB Tryz.func385,Tryz.underlying0,Tryz.isAgg0,Tryz.sizeOf0,Tryz.zeroValue0,Tryz.underlying3,Tryz.isAgg3,Tryz.sizeOf3,Tryz.zeroValue3,Tryz.underlying4,Tryz.isAgg4,Tryz.sizeOf4,Tryz.zeroValue4,Tryz.underlying5,Tryz.isAgg5,Tryz.sizeOf5,Tryz.zeroValue5,Tryz.underlying9,Tryz.isAgg9,Tryz.sizeOf9,Tryz.zeroValue9,Tryz.underlying113,Tryz.isAgg113,Tryz.sizeOf113,Tryz.zeroValue113,Tryz.underlying174,Tryz.isAgg174,Tryz.sizeOf174,Tryz.zeroValue174,Tryz.underlying119,Tryz.isAgg119,Tryz.sizeOf119,Tryz.zeroValue119,Tryz.underlying176,Tryz.isAgg176,Tryz.sizeOf176,Tryz.zeroValue176,Tryz.underlying177,Tryz.isAgg177,Tryz.sizeOf177,Tryz.zeroValue177,Tryz.underlying105,Tryz.isAgg105,Tryz.sizeOf105,Tryz.zeroValue105,Tryz.underlying183,Tryz.isAgg183,Tryz.sizeOf183,Tryz.zeroValue183,Tryz.underlying185,Tryz.isAgg185,Tryz.sizeOf185,Tryz.zeroValue185,Tryz.underlying251,Tryz.isAgg251,Tryz.sizeOf251,Tryz.zeroValue251,Tryz.underlying255,Tryz.isAgg255,Tryz.sizeOf255,Tryz.zeroValue255,Tryz.underlying331,Tryz.isAgg331,Tryz.sizeOf331,Tryz.zeroValue331,Tryz.underlying332,Tryz.isAgg332,Tryz.sizeOf332,Tryz.zeroValue332⟩
def Tryz.laysSG_ren:Go.Shelf.Ren:=⟨λ|6=>21|15=>55|14=>54|28=>114|29=>115|20=>106|21=>107|22=>108|23=>109|24=>110|25=>111|26=>112|27=>113|46=>189|47=>190|48=>191|49=>192|50=>193|57=>296|n=>n,λ|22=>23|24=>46|25=>70|3=>3|39=>119|0=>0|53=>183|55=>185|4=>4|46=>177|45=>176|50=>105|5=>5|9=>9|66=>251|70=>255|76=>331|77=>332|n=>n,λ|n=>n⟩
theorem Tryz.laysSG:Go.Proofs.SlLaysF0.n6 Tryz.prog Tryz.laysSG_ren:=⟨by kernel_rfl,LB Tryz.func21,LB Tryz.func54,LA Tryz.func55,LB Tryz.func106,LB Tryz.func107,LB Tryz.func108,LB Tryz.func109,LB Tryz.func110,LB Tryz.func111,LB Tryz.func112,LB Tryz.func113,LA Tryz.func114,LA Tryz.func115,LB Tryz.func189,LA Tryz.func190,LA Tryz.func191,LB Tryz.func192,LB Tryz.func193,LB Tryz.func296,Tryz.underlying0,Tryz.isAgg0,Tryz.sizeOf0,Tryz.zeroValue0,Tryz.underlying3,Tryz.isAgg3,Tryz.sizeOf3,Tryz.zeroValue3,Tryz.underlying4,Tryz.isAgg4,Tryz.sizeOf4,Tryz.zeroValue4,Tryz.underlying5,Tryz.isAgg5,Tryz.sizeOf5,Tryz.zeroValue5,Tryz.underlying9,Tryz.isAgg9,Tryz.sizeOf9,Tryz.zeroValue9,Tryz.underlying23,Tryz.isAgg23,Tryz.sizeOf23,Tryz.zeroValue23,Tryz.underlying70,Tryz.isAgg70,Tryz.sizeOf70,Tryz.zeroValue70,Tryz.underlying119,Tryz.isAgg119,Tryz.sizeOf119,Tryz.zeroValue119,Tryz.underlying176,Tryz.isAgg176,Tryz.sizeOf176,Tryz.zeroValue176,Tryz.underlying177,Tryz.isAgg177,Tryz.sizeOf177,Tryz.zeroValue177,Tryz.underlying105,Tryz.isAgg105,Tryz.sizeOf105,Tryz.zeroValue105,Tryz.underlying183,Tryz.isAgg183,Tryz.sizeOf183,Tryz.zeroValue183,Tryz.underlying185,Tryz.isAgg185,Tryz.sizeOf185,Tryz.zeroValue185,Tryz.underlying251,Tryz.isAgg251,Tryz.sizeOf251,Tryz.zeroValue251,Tryz.underlying255,Tryz.isAgg255,Tryz.sizeOf255,Tryz.zeroValue255,Tryz.underlying331,Tryz.isAgg331,Tryz.sizeOf331,Tryz.zeroValue331,Tryz.underlying332,Tryz.isAgg332,Tryz.sizeOf332,Tryz.zeroValue332⟩
def Tryz.laysSI_ren:Go.Shelf.Ren:=⟨λ|189=>265|125=>55|257=>346|128=>114|129=>115|294=>376|295=>377|296=>378|297=>379|298=>380|299=>381|216=>382|300=>383|301=>384|328=>395|329=>190|330=>191|331=>396|332=>397|215=>116|343=>398|n=>n,λ|28=>26|3=>3|46=>119|0=>0|51=>183|53=>185|4=>4|183=>177|182=>176|131=>105|5=>5|9=>9|218=>251|222=>255|228=>331|229=>332|n=>n,λ|n=>n⟩
theorem Tryz.laysSI:Go.Proofs.Lays.n189 Tryz.prog Tryz.laysSI_ren:=⟨by kernel_rfl,LA Tryz.func55,LA Tryz.func114,LA Tryz.func115,LA Tryz.func265,LA Tryz.func116,LA Tryz.func382,LA Tryz.func346,LA Tryz.func376,LA Tryz.func377,LA Tryz.func378,LA Tryz.func379,LA Tryz.func380,LA Tryz.func381,LA Tryz.func383,LA Tryz.func384,LA Tryz.func395,LA Tryz.func190,LA Tryz.func191,LA Tryz.func396,LA Tryz.func397,LA Tryz.func398,Tryz.underlying0,Tryz.isAgg0,Tryz.sizeOf0,Tryz.zeroValue0,Tryz.underlying3,Tryz.isAgg3,Tryz.sizeOf3,Tryz.zeroValue3,Tryz.underlying4,Tryz.isAgg4,Tryz.sizeOf4,Tryz.zeroValue4,Tryz.underlying5,Tryz.isAgg5,Tryz.sizeOf5,Tryz.zeroValue5,Tryz.underlying9,Tryz.isAgg9,Tryz.sizeOf9,Tryz.zeroValue9,Tryz.underlying26,Tryz.isAgg26,Tryz.sizeOf26,Tryz.zeroValue26,Tryz.underlying119,Tryz.isAgg119,Tryz.sizeOf119,Tryz.zeroValue119,Tryz.underlying183,Tryz.isAgg183,Tryz.sizeOf183,Tryz.zeroValue183,Tryz.underlying185,Tryz.isAgg185,Tryz.sizeOf185,Tryz.zeroValue185,Tryz.underlying105,Tryz.isAgg105,Tryz.sizeOf105,Tryz.zeroValue105,Tryz.underlying176,Tryz.isAgg176,Tryz.sizeOf176,Tryz.zeroValue176,Tryz.underlying177,Tryz.isAgg177,Tryz.sizeOf177,Tryz.zeroValue177,Tryz.underlying251,Tryz.isAgg251,Tryz.sizeOf251,Tryz.zeroValue251,Tryz.underlying255,Tryz.isAgg255,Tryz.sizeOf255,Tryz.zeroValue255,Tryz.underlying331,Tryz.isAgg331,Tryz.sizeOf331,Tryz.zeroValue331,Tryz.underlying332,Tryz.isAgg332,Tryz.sizeOf332,Tryz.zeroValue332⟩
def Tryz.laysDel_ren:Go.Shelf.Ren:=⟨λ|45=>351|n=>n,λ|22=>26|23=>3|3=>3|4=>4|0=>0|n=>n,λ|n=>n⟩
theorem Tryz.laysDel:Go.Proofs.SlLaysN.n45 Tryz.prog Tryz.laysDel_ren:=⟨by kernel_rfl,LB Tryz.func351,Tryz.underlying0,Tryz.isAgg0,Tryz.sizeOf0,Tryz.zeroValue0,Tryz.underlying3,Tryz.isAgg3,Tryz.sizeOf3,Tryz.zeroValue3,Tryz.underlying4,Tryz.isAgg4,Tryz.sizeOf4,Tryz.zeroValue4,Tryz.underlying26,Tryz.isAgg26,Tryz.sizeOf26,Tryz.zeroValue26,Tryz.underlying3,Tryz.isAgg3,Tryz.sizeOf3,Tryz.zeroValue3,by kernel_rfl⟩
def Tryz.laysWS_ren:Go.Shelf.Ren:=⟨λ|166=>39|240=>81|276=>146|n=>n,λ|0=>0|3=>3|4=>4|9=>9|20=>20|37=>81|70=>89|72=>91|75=>94|164=>218|80=>59|n=>n,λ|n=>n⟩
theorem Tryz.laysWS:Go.Proofs.Lays.n166 Tryz.prog Tryz.laysWS_ren:=⟨by kernel_rfl,LA Tryz.func39,LA Tryz.func81,LA Tryz.func146,Tryz.underlying0,Tryz.isAgg0,Tryz.sizeOf0,Tryz.zeroValue0,Tryz.underlying3,Tryz.isAgg3,Tryz.sizeOf3,Tryz.zeroValue3,Tryz.underlying4,Tryz.isAgg4,Tryz.sizeOf4,Tryz.zeroValue4,Tryz.underlying9,Tryz.isAgg9,Tryz.sizeOf9,Tryz.zeroValue9,Tryz.underlying20,Tryz.isAgg20,Tryz.sizeOf20,Tryz.zeroValue20,Tryz.underlying81,Tryz.isAgg81,Tryz.sizeOf81,Tryz.zeroValue81,Tryz.underlying89,Tryz.isAgg89,Tryz.sizeOf89,Tryz.zeroValue89,Tryz.underlying91,Tryz.isAgg91,Tryz.sizeOf91,Tryz.zeroValue91,Tryz.underlying94,Tryz.isAgg94,Tryz.sizeOf94,Tryz.zeroValue94,Tryz.underlying218,Tryz.isAgg218,Tryz.sizeOf218,Tryz.zeroValue218⟩
theorem Tryz.extWS:Builder.Extra Tryz.prog Tryz.laysWS_ren where
 sizeBuilder:=by kernel_rfl
 liesBuilder:=by kernel_rfl
 t5:=Tryz.underlying5
 a5:=Tryz.isAgg5
 z5:=Tryz.sizeOf5
 v5:=Tryz.zeroValue5
 infoByte:=by kernel_rfl
 cellsByte:=by kernel_rfl
 sizeByte:=by kernel_rfl
 neB5:=by decide
def Tryz.laysBS_ren:Go.Shelf.Ren:=⟨λ|169=>42|n=>n,λ|70=>89|9=>9|0=>0|72=>91|37=>81|127=>149|3=>3|5=>5|n=>n,λ|n=>n⟩
theorem Tryz.laysBS:Go.Proofs.Lays.n169 Tryz.prog Tryz.laysBS_ren:=⟨by kernel_rfl,LA Tryz.func42,Tryz.underlying0,Tryz.isAgg0,Tryz.sizeOf0,Tryz.zeroValue0,Tryz.underlying3,Tryz.isAgg3,Tryz.sizeOf3,Tryz.zeroValue3,Tryz.underlying9,Tryz.isAgg9,Tryz.sizeOf9,Tryz.zeroValue9,Tryz.underlying81,Tryz.isAgg81,Tryz.sizeOf81,Tryz.zeroValue81,Tryz.underlying89,Tryz.isAgg89,Tryz.sizeOf89,Tryz.zeroValue89,Tryz.underlying91,Tryz.isAgg91,Tryz.sizeOf91,Tryz.zeroValue91,Tryz.underlying149,Tryz.isAgg149,Tryz.sizeOf149,Tryz.zeroValue149⟩
theorem Tryz.extBS:Builder.Extra Tryz.prog Tryz.laysBS_ren where
 sizeBuilder:=by kernel_rfl
 liesBuilder:=by kernel_rfl
 t5:=Tryz.underlying5
 a5:=Tryz.isAgg5
 z5:=Tryz.sizeOf5
 v5:=Tryz.zeroValue5
 infoByte:=by kernel_rfl
 cellsByte:=by kernel_rfl
 sizeByte:=by kernel_rfl
 neB5:=by decide
def Tryz.laysJo_ren:Go.Shelf.Ren:=⟨λ|156=>80|165=>145|166=>39|169=>42|240=>81|241=>227|276=>146|277=>324|n=>n,λ|31=>55|9=>9|3=>3|4=>4|0=>0|20=>20|72=>91|76=>95|70=>89|37=>81|75=>94|127=>149|164=>218|5=>5|80=>59|n=>n,λ|n=>n⟩
theorem Tryz.laysJo:Go.Proofs.Lays.n156 Tryz.prog Tryz.laysJo_ren:=⟨by kernel_rfl,LA Tryz.func80,LA Tryz.func145,LA Tryz.func39,LA Tryz.func42,LA Tryz.func81,LA Tryz.func227,LA Tryz.func146,LA Tryz.func324,Tryz.underlying0,Tryz.isAgg0,Tryz.sizeOf0,Tryz.zeroValue0,Tryz.underlying3,Tryz.isAgg3,Tryz.sizeOf3,Tryz.zeroValue3,Tryz.underlying4,Tryz.isAgg4,Tryz.sizeOf4,Tryz.zeroValue4,Tryz.underlying9,Tryz.isAgg9,Tryz.sizeOf9,Tryz.zeroValue9,Tryz.underlying20,Tryz.isAgg20,Tryz.sizeOf20,Tryz.zeroValue20,Tryz.underlying55,Tryz.isAgg55,Tryz.sizeOf55,Tryz.zeroValue55,Tryz.underlying81,Tryz.isAgg81,Tryz.sizeOf81,Tryz.zeroValue81,Tryz.underlying89,Tryz.isAgg89,Tryz.sizeOf89,Tryz.zeroValue89,Tryz.underlying91,Tryz.isAgg91,Tryz.sizeOf91,Tryz.zeroValue91,Tryz.underlying94,Tryz.isAgg94,Tryz.sizeOf94,Tryz.zeroValue94,Tryz.underlying95,Tryz.isAgg95,Tryz.sizeOf95,Tryz.zeroValue95,Tryz.underlying149,Tryz.isAgg149,Tryz.sizeOf149,Tryz.zeroValue149,Tryz.underlying218,Tryz.isAgg218,Tryz.sizeOf218,Tryz.zeroValue218⟩
def Tryz.laysIt_ren:Go.Shelf.Ren:=⟨λ|171=>40|243=>82|246=>147|283=>228|284=>229|285=>230|286=>231|129=>115|317=>325|318=>326|319=>327|320=>328|337=>368|338=>369|n=>n,λ|3=>3|9=>9|2=>2|4=>4|171=>287|0=>0|53=>185|37=>81|5=>5|173=>289|212=>352|51=>183|20=>20|213=>353|46=>119|232=>406|233=>407|n=>n,λ|17=>1|18=>6|19=>7|n=>n⟩
theorem Tryz.laysIt:Go.Proofs.LaysM.n171 Tryz.prog Tryz.laysIt_ren:={
 mixed:=by kernel_rfl
 f129:=LA Tryz.func115
 f171:=LA Tryz.func40
 f243:=LA Tryz.func82
 f246:=LA Tryz.func147
 f283:=LA Tryz.func228
 f284:=LA Tryz.func229
 f285:=LA Tryz.func230
 f286:=LA Tryz.func231
 f317:=LA Tryz.func325
 f318:=LA Tryz.func326
 f319:=LA Tryz.func327
 f320:=LA Tryz.func328
 f337:=LA Tryz.func368
 f338:=LA Tryz.func369
 t0:=Tryz.underlying0
 a0:=Tryz.isAgg0
 z0:=Tryz.sizeOf0
 v0:=Tryz.zeroValue0
 t2:=Tryz.underlying2
 a2:=Tryz.isAgg2
 z2:=Tryz.sizeOf2
 v2:=Tryz.zeroValue2
 t3:=Tryz.underlying3
 a3:=Tryz.isAgg3
 z3:=Tryz.sizeOf3
 v3:=Tryz.zeroValue3
 t4:=Tryz.underlying4
 a4:=Tryz.isAgg4
 z4:=Tryz.sizeOf4
 v4:=Tryz.zeroValue4
 t5:=Tryz.underlying5
 a5:=Tryz.isAgg5
 z5:=Tryz.sizeOf5
 v5:=Tryz.zeroValue5
 t9:=Tryz.underlying9
 a9:=Tryz.isAgg9
 z9:=Tryz.sizeOf9
 v9:=Tryz.zeroValue9
 t20:=Tryz.underlying20
 a20:=Tryz.isAgg20
 z20:=Tryz.sizeOf20
 v20:=Tryz.zeroValue20
 t37:=Tryz.underlying81
 a37:=Tryz.isAgg81
 z37:=Tryz.sizeOf81
 v37:=Tryz.zeroValue81
 t46:=Tryz.underlying119
 a46:=Tryz.isAgg119
 z46:=Tryz.sizeOf119
 v46:=Tryz.zeroValue119
 t51:=Tryz.underlying183
 a51:=Tryz.isAgg183
 z51:=Tryz.sizeOf183
 v51:=Tryz.zeroValue183
 t53:=Tryz.underlying185
 a53:=Tryz.isAgg185
 z53:=Tryz.sizeOf185
 v53:=Tryz.zeroValue185
 t171:=Tryz.underlying287
 a171:=Tryz.isAgg287
 z171:=Tryz.sizeOf287
 v171:=Tryz.zeroValue287
 t173:=Tryz.underlying289
 a173:=Tryz.isAgg289
 z173:=Tryz.sizeOf289
 v173:=Tryz.zeroValue289
 t212:=Tryz.underlying352
 a212:=Tryz.isAgg352
 z212:=Tryz.sizeOf352
 v212:=Tryz.zeroValue352
 t213:=Tryz.underlying353
 a213:=Tryz.isAgg353
 z213:=Tryz.sizeOf353
 t232:=Tryz.underlying406
 a232:=Tryz.isAgg406
 z232:=Tryz.sizeOf406
 v232:=Tryz.zeroValue406
 t233:=Tryz.underlying407
 a233:=Tryz.isAgg407
 z233:=Tryz.sizeOf407
 v233:=Tryz.zeroValue407
 g17:=by kernel_rfl
 g18:=by kernel_rfl
 g19:=by kernel_rfl
 i0:=by kernel_rfl
 i2:=by kernel_rfl
 i3:=by kernel_rfl
 i4:=by kernel_rfl
 i5:=by kernel_rfl
 i9:=by kernel_rfl
 i20:=by kernel_rfl
 i37:=by kernel_rfl
 i46:=by kernel_rfl
 i51:=by kernel_rfl
 i53:=by kernel_rfl
 i171:=by kernel_rfl
 i173:=by kernel_rfl
 i212:=by kernel_rfl
 i232:=by kernel_rfl
 i233:=by kernel_rfl
 m17:=by kernel_rfl
 m18:=by kernel_rfl
 m19:=by kernel_rfl }
def Tryz.laysCu_ren:Go.Shelf.Ren:=⟨λ|145=>48|220=>86|219=>153|217=>235|225=>236|224=>237|267=>238|266=>330|314=>331|n=>n,λ|9=>9|4=>4|59=>107|3=>3|5=>5|46=>119|146=>354|51=>183|n=>n,λ|1=>0|n=>n⟩
theorem Tryz.laysCu:Go.Proofs.Lays.n145 Tryz.prog Tryz.laysCu_ren:=⟨by kernel_rfl,LA Tryz.func48,LA Tryz.func235,LA Tryz.func153,LA Tryz.func86,LA Tryz.func237,LA Tryz.func236,LA Tryz.func330,LA Tryz.func238,LA Tryz.func331,Tryz.underlying3,Tryz.isAgg3,Tryz.sizeOf3,Tryz.zeroValue3,Tryz.underlying4,Tryz.isAgg4,Tryz.sizeOf4,Tryz.zeroValue4,Tryz.underlying5,Tryz.isAgg5,Tryz.sizeOf5,Tryz.zeroValue5,Tryz.underlying9,Tryz.isAgg9,Tryz.sizeOf9,Tryz.zeroValue9,Tryz.underlying119,Tryz.isAgg119,Tryz.sizeOf119,Tryz.zeroValue119,Tryz.underlying183,Tryz.isAgg183,Tryz.sizeOf183,Tryz.zeroValue183,Tryz.underlying107,Tryz.isAgg107,Tryz.sizeOf107,Tryz.zeroValue107,Tryz.underlying354,Tryz.isAgg354,Tryz.sizeOf354,Tryz.zeroValue354,by kernel_rfl⟩
def Tryz.laysSp_ren:Go.Shelf.Ren:=⟨λ|146=>47|221=>85|268=>150|138=>151|143=>152|195=>232|197=>233|218=>234|219=>153|260=>329|217=>235|225=>236|224=>237|267=>238|266=>330|314=>331|n=>n,λ|9=>9|31=>55|3=>3|4=>4|0=>0|105=>291|21=>21|5=>5|46=>119|119=>379|139=>382|138=>381|146=>354|51=>183|n=>n,λ|1=>0|3=>2|4=>3|n=>n⟩
theorem Tryz.laysSp:Go.Proofs.Lays.n146 Tryz.prog Tryz.laysSp_ren:=⟨by kernel_rfl,LA Tryz.func151,LA Tryz.func152,LA Tryz.func47,LA Tryz.func232,LA Tryz.func233,LA Tryz.func235,LA Tryz.func234,LA Tryz.func153,LA Tryz.func85,LA Tryz.func237,LA Tryz.func236,LA Tryz.func329,LA Tryz.func330,LA Tryz.func238,LA Tryz.func150,LA Tryz.func331,Tryz.underlying0,Tryz.isAgg0,Tryz.sizeOf0,Tryz.zeroValue0,Tryz.underlying3,Tryz.isAgg3,Tryz.sizeOf3,Tryz.zeroValue3,Tryz.underlying4,Tryz.isAgg4,Tryz.sizeOf4,Tryz.zeroValue4,Tryz.underlying5,Tryz.isAgg5,Tryz.sizeOf5,Tryz.zeroValue5,Tryz.underlying9,Tryz.isAgg9,Tryz.sizeOf9,Tryz.zeroValue9,Tryz.underlying21,Tryz.isAgg21,Tryz.sizeOf21,Tryz.zeroValue21,Tryz.underlying55,Tryz.isAgg55,Tryz.sizeOf55,Tryz.zeroValue55,Tryz.underlying119,Tryz.isAgg119,Tryz.sizeOf119,Tryz.zeroValue119,Tryz.underlying183,Tryz.isAgg183,Tryz.sizeOf183,Tryz.zeroValue183,Tryz.underlying291,Tryz.isAgg291,Tryz.sizeOf291,Tryz.zeroValue291,Tryz.underlying379,Tryz.isAgg379,Tryz.sizeOf379,Tryz.underlying381,Tryz.isAgg381,Tryz.sizeOf381,Tryz.zeroValue381,Tryz.underlying382,Tryz.isAgg382,Tryz.sizeOf382,Tryz.zeroValue382,Tryz.underlying354,Tryz.isAgg354,Tryz.sizeOf354,Tryz.zeroValue354,by kernel_rfl,by kernel_rfl,by kernel_rfl⟩
def Tryz.laysAt_ren:Go.Shelf.Ren:=⟨λ|172=>156|244=>246|245=>247|247=>336|279=>337|280=>338|281=>339|282=>340|287=>373|316=>374|171=>40|205=>375|321=>393|322=>394|243=>82|246=>147|283=>228|284=>229|285=>230|286=>231|129=>115|317=>325|318=>326|319=>327|320=>328|337=>368|338=>369|n=>n,λ|9=>9|3=>3|75=>94|76=>95|4=>4|5=>5|167=>357|37=>81|0=>0|85=>358|2=>2|168=>360|53=>185|175=>388|46=>119|210=>392|127=>149|145=>411|143=>409|21=>21|171=>287|173=>289|212=>352|51=>183|20=>20|213=>353|232=>406|233=>407|80=>59|n=>n,λ|15=>4|16=>5|17=>1|18=>6|19=>7|n=>n⟩
theorem Tryz.laysAt:Go.Proofs.Lays.n172 Tryz.prog Tryz.laysAt_ren:=⟨by kernel_rfl,LA Tryz.func115,LA Tryz.func40,LA Tryz.func156,LA Tryz.func375,LA Tryz.func82,LA Tryz.func246,LA Tryz.func247,LA Tryz.func147,LA Tryz.func336,LA Tryz.func337,LA Tryz.func338,LA Tryz.func339,LA Tryz.func340,LA Tryz.func228,LA Tryz.func229,LA Tryz.func230,LA Tryz.func231,LA Tryz.func373,LA Tryz.func374,LA Tryz.func325,LA Tryz.func326,LA Tryz.func327,LA Tryz.func328,LA Tryz.func393,LA Tryz.func394,LA Tryz.func368,LA Tryz.func369,Tryz.underlying0,Tryz.isAgg0,Tryz.sizeOf0,Tryz.zeroValue0,Tryz.underlying2,Tryz.isAgg2,Tryz.sizeOf2,Tryz.zeroValue2,Tryz.underlying3,Tryz.isAgg3,Tryz.sizeOf3,Tryz.zeroValue3,Tryz.underlying4,Tryz.isAgg4,Tryz.sizeOf4,Tryz.zeroValue4,Tryz.underlying5,Tryz.isAgg5,Tryz.sizeOf5,Tryz.zeroValue5,Tryz.underlying9,Tryz.isAgg9,Tryz.sizeOf9,Tryz.zeroValue9,Tryz.underlying20,Tryz.isAgg20,Tryz.sizeOf20,Tryz.zeroValue20,Tryz.underlying21,Tryz.isAgg21,Tryz.sizeOf21,Tryz.zeroValue21,Tryz.underlying81,Tryz.isAgg81,Tryz.sizeOf81,Tryz.zeroValue81,Tryz.underlying119,Tryz.isAgg119,Tryz.sizeOf119,Tryz.zeroValue119,Tryz.underlying183,Tryz.isAgg183,Tryz.sizeOf183,Tryz.zeroValue183,Tryz.underlying185,Tryz.isAgg185,Tryz.sizeOf185,Tryz.zeroValue185,Tryz.underlying94,Tryz.isAgg94,Tryz.sizeOf94,Tryz.zeroValue94,Tryz.underlying95,Tryz.isAgg95,Tryz.sizeOf95,Tryz.zeroValue95,Tryz.underlying358,Tryz.isAgg358,Tryz.sizeOf358,Tryz.zeroValue358,Tryz.underlying149,Tryz.isAgg149,Tryz.sizeOf149,Tryz.zeroValue149,Tryz.underlying409,Tryz.isAgg409,Tryz.sizeOf409,Tryz.zeroValue409,Tryz.underlying411,Tryz.isAgg411,Tryz.sizeOf411,Tryz.zeroValue411,Tryz.underlying357,Tryz.isAgg357,Tryz.sizeOf357,Tryz.zeroValue357,Tryz.underlying360,Tryz.isAgg360,Tryz.sizeOf360,Tryz.zeroValue360,Tryz.underlying287,Tryz.isAgg287,Tryz.sizeOf287,Tryz.zeroValue287,Tryz.underlying289,Tryz.isAgg289,Tryz.sizeOf289,Tryz.zeroValue289,Tryz.underlying388,Tryz.isAgg388,Tryz.sizeOf388,Tryz.zeroValue388,Tryz.underlying392,Tryz.isAgg392,Tryz.sizeOf392,Tryz.zeroValue392,Tryz.underlying352,Tryz.isAgg352,Tryz.sizeOf352,Tryz.zeroValue352,Tryz.underlying353,Tryz.isAgg353,Tryz.sizeOf353,Tryz.underlying406,Tryz.isAgg406,Tryz.sizeOf406,Tryz.zeroValue406,Tryz.underlying407,Tryz.isAgg407,Tryz.sizeOf407,Tryz.zeroValue407,by kernel_rfl,by kernel_rfl,by kernel_rfl,by kernel_rfl,by kernel_rfl⟩
theorem Tryz.extJo:Builder.Extra Tryz.prog Tryz.laysJo_ren where
 sizeBuilder:=by kernel_rfl
 liesBuilder:=by kernel_rfl
 t5:=Tryz.underlying5
 a5:=Tryz.isAgg5
 z5:=Tryz.sizeOf5
 v5:=Tryz.zeroValue5
 infoByte:=by kernel_rfl
 cellsByte:=by kernel_rfl
 sizeByte:=by kernel_rfl
 neB5:=by decide
end Go.Proofs
namespace Go.Va
open Lib renaming countB → aD, byteCells → aG, splitB → aH, join → aI, cut → aJ
open Go.Proofs Go.RowKit
def Bld(B b:Nat)(l:List UInt8)(w:World):Prop:=Lib.IsBuilderF 91 5 B b (aG l) w
def Ig(B b:Nat)(l:List UInt8)(w w':World):Prop:=Bld B b l w'/\Below B w w'/\Lib.OthersKept 5 (some b) w w'/\DR w.drawn w'.drawn
variable{Z:Addr->Prop}{w:World}
theorem ZV(l s:List UInt8):aG (l++s)=aG l++Lib.strCells ⟨s.toArray⟩:=by
 rw[Lib.strCells_eq];simp[aG]
theorem LE(B b:Nat)(l s:List UInt8)(w:World)(h:Bld B b l w)(g:l.length+s.length<=100000000)(a:B<=w.heap.size):
  Calls Tryz.prog 39 #[.pointer (some ⟨b,0,none⟩),.string ⟨s.toArray⟩] w λe w'=>e= .returned (.tuple #[.int .i64 s.length,.nilIface])/\Ig B b (l++s) w w':=by
 refine(Any.Builder_WriteString_k Tryz.laysWS Tryz.extWS B b _ ⟨s.toArray⟩ w h (by rw[Lib.byteCells_length];simp[ByteArray.size];omega) a).mono ?_;rintro e w' ⟨rfl,f,i,j⟩;rw[<-ZV]at f;exact⟨rfl,.inr f,i,j,trivial⟩
theorem MT(B b:Nat)(l:List UInt8)(w:World)(h:Bld B b l w)(a:B<=w.heap.size):
  Calls Tryz.prog 42 #[.pointer (some ⟨b,0,none⟩)] w λe w'=>e= .returned (.string ⟨l.toArray⟩)/\Below B w w'/\DR w.drawn w'.drawn:=
 (Any.Builder_String_any_k Tryz.laysBS Tryz.extBS B b l w h a).mono λe w' h=>⟨h.1,h.2.2.1,trivial⟩
theorem Py(w:World)(Z:Addr->Prop)[Gv](k:Nat)(o:Own):Heap (B3 k [] o) w Z []:=⟨⟨λi o hi=>(by cases hi),λi e o f hi=>(by cases hi),λi o hi=>(by cases hi)⟩,λi b a=>(by cases a)⟩
theorem Ll{k:Nat}{o:Own}{a:Addr}(h:Ar (B3 k [] o) Z a):Z a:=by
 rcases h with h|⟨i,b,hi,_⟩
 ·exact h
 ·cases hi
theorem Iw{P:Program}{f:FuncId}{b:List A}{d:D}(a:CY P f)
  (h: ∀(w:World) (Z:Addr->Prop) (vals:List Value),ZOk w Z Z->RepL (A.rep w Z) b vals->Calls P f vals.toArray w λe w'=> ∃v,e= .returned v/\Below w.heap.size w w'/\RepD w' Z d v):CallsF P f b (.u (.c (.d d))):=by
 refine⟨a,λw Z vals g l=>(h w Z vals g l).mono ?_⟩;rintro e w' ⟨v,rfl,i,j⟩;exact⟨v,rfl,⟨i,trivial⟩,by simp[R.rows,RU.rows,RC.rows],⟨0,0,0,0,false,false,true⟩,λm h=>(by cases h.1),λk=>⟨j.keep (Keep.mono λ_=>Ll),Py _ _ _ _⟩⟩
theorem Jv{P:Program}{f:FuncId}{p:List A}{ds:List D}(b:CY P f)
  (h: ∀(w:World) (Z:Addr->Prop) (vals:List Value),ZOk w Z Z->RepL (A.rep w Z) p vals->Calls P f vals.toArray w λe w'=> ∃vs:List Value,e= .returned (.tuple vs.toArray)/\Below w.heap.size w w'/\RepL (RepD w' Z) ds vs):CallsF P f p (.tup (ds.map λd=> .c (.d d))):=by
 have a: ∀l:List D,(l.map λd=>RU.c (.d d)).flatMap RU.rows=[]:=λl=>by
  induction l with
  |nil=>rfl
  |cons x l z=>simpa [RU.rows,RC.rows]using z
 have m:(R.tup (ds.map λd=> .c (.d d))).rows=[]:=a ds;refine⟨b,λw Z vals q i=>(h w Z vals q i).mono ?_⟩;rintro e w' ⟨vs,rfl,r,y,g⟩;refine⟨_,rfl,⟨r,trivial⟩,by rw[m];simp,⟨0,0,0,0,false,false,true⟩,λE h=>(by cases h.1),λk=> ?_⟩;rw[m];refine⟨⟨vs,rfl,by simp[y],λj u v o i=> ?_⟩,Py _ _ _ _⟩;simp only[Bf,jze]at o;obtain⟨c,⟨d,t,rfl⟩,rfl⟩:=o;exact(g j d v t i).keep (Keep.mono λ_=>Ll)
theorem jch(w:World)(n:Nat):Below w.heap.size w (w.drewN n):=⟨rfl,rfl,rfl,AO _,λ_ _=>rfl⟩
theorem jbm(w:World)(k:Nat)(os:Array Obj):Below w.heap.size w (Sort.grow (w.drewN k) os):=
 ⟨rfl,rfl,rfl,by show w.heap.size<=(w.heap++os).size;rw[Array.size_append];omega,λj a=>by show(w.heap++os)[j]? =_;rw[Array.getElem?_append_left a]⟩
theorem YO(w:World)(e:TypeId)(t:ByteArray):Below w.heap.size w (Lib.bytesWorld w e t):=Lib.below_freeze ((Below.drew (Below.refl _ w)).alloc (AO _) _) (p:=⟨w.heap.size,_,none⟩) (AO _) _
theorem OK{x:D}{vals:List Value}(h:RepL (A.rep w Z) [.c x] vals): ∃v,vals=[v]/\RepD w Z x v:=by
 match vals,h.1 with
 |[v],_=>exact⟨v,rfl,h.2 0 _ _ rfl rfl⟩
theorem II{x y:D}{vals:List Value}(h:RepL (A.rep w Z) [.c x,.c y] vals): ∃v u,vals=[v,u]/\RepD w Z x v/\RepD w Z y u:=by
 match vals,h.1 with
 |[v,u],_=>exact⟨v,u,rfl,h.2 0 _ _ rfl rfl,h.2 1 _ _ rfl rfl⟩
theorem D8{P : Program} {f : FuncId} {fn : Func} (h : P.funcs[f]? = some fn) (h1 : fn.body.isSome = true) (h2 : (fn.name == "runtime.NumGoroutine") = false) : CY P f := ⟨fn, h, h1, h2⟩
theorem Xd: Tryz.prog.globalNamed "internal/strconv.uint64pow10" = some 1 :=O4
theorem GW.tab  (h : GW w) : Lib.TabIs Tryz.prog w "internal/strconv.uint64pow10" .u64 Lib.pow10Tab := by
 obtain⟨t,f,ht⟩: ∃t f,w.heap[1]? =some (.cells (((List.range 20).map λi=>((10^i:Nat):Int)).map λz=>Value.int .u64 z).toArray t f):=by first|exact h.2.1|exact h.2
 unfold Lib.TabIs World.var?;rw[Xd];simp only[Option.bind_some];rw[ht];rfl
theorem FU(n:Int)(b: -9223372036854775808<=n)(f:n<=9223372036854775807):CallsF Tryz.prog 40 [.c (.int .i64 n)] (.u (.c (.d (.str ⟨(Lib.itoa n).toArray⟩)))):=by
 refine Iw (D8 Tryz.func40 rfl O2) λw Z vals g a=> ?_;obtain⟨v,rfl,h⟩:=OK a;clear a;cases h;refine(Any.strconv_Itoa Tryz.laysIt n b f w g.gw.tab).mono ?_;rintro e j ⟨rfl,k,i,rfl⟩;exact⟨_,rfl,jbm w k i,.str _⟩
theorem Xa(l:List ByteArray)(b:ByteArray)(Q:l.length<=1000000)(y:(aI (l.map (·.data.toList)) b.data.toList).length<=1000000000):
  CallsF Tryz.prog 80 [.c (.slice l.length (l.map .str)),.c (.str b)] (.u (.c (.d (.str ⟨(aI (l.map (·.data.toList)) b.data.toList).toArray⟩)))):=by
 refine Iw (D8 Tryz.func80 rfl O2) λw Z vals S h=> ?_;obtain⟨v,u,rfl,z,K⟩:=II h;clear h;cases K;have none: ∀a c,l=[]->Calls Tryz.prog 80 #[.slice a 0 c,.string b] w λe k=> ∃v,e= .returned v/\Below w.heap.size w k/\RepD k Z (.str ⟨(aI (l.map (·.data.toList)) b.data.toList).toArray⟩) v:=λa c e=>by
  subst e;refine(Any.strings_Join_none Tryz.laysJo Tryz.extJo a c b w).mono ?_;rintro e k ⟨rfl,rfl⟩;exact⟨_,rfl,Below.refl _ _,.str _⟩
 obtain⟨n,hn⟩: ∃n,n=l.length:=⟨_,rfl⟩
 obtain⟨m,hm⟩: ∃m,m=l.map D.str:=⟨_,rfl⟩
 rw[<-hn,<-hm]at z;cases z with
 |snil=>exact none _ _ (jzv.1 hn.symm)
 |slice n N a c M J p T G P H=>
  by_cases i:l=[]
  ·have:n=0:=by rw[hn,i];rfl
   subst this;exact none _ _ i
  ·obtain⟨g,E,L⟩:=a;subst hm;have:L=Option.none:=J (by simpa using i);subst this;subst hn;have f: ∀(j:Nat) x,l[j]? =some x->w.cell? ⟨g,E+j,Option.none⟩=some (.string x):=λj x r=>by
    have q:=G j (.str x) (by simp[r]);have F:=H j (.str x) (by simp[r]);simp only at q;generalize M j=u at q F;cases F;exact q
   have o:g<w.heap.size:=by
    obtain⟨x,t,rfl⟩: ∃x t,l=x::t:=by
     cases l with
     |nil=>exact absurd rfl i
     |cons x t=>exact⟨x,t,rfl⟩
    exact World.block_lt_of_cell? _ _ (f 0 x rfl)
   refine(Any.strings_Join Tryz.laysJo Tryz.extJo g E c l b w f o O p O).mono ?_;rintro e k ⟨rfl,I⟩;exact⟨_,rfl,I,.str _⟩
theorem UT(s a:ByteArray)(k:s.size<4294967281):CallsF Tryz.prog 48 [.c (.str s),.c (.str a)]
  (.tup ([D.str ⟨(aJ s.data.toList a.data.toList).1.toArray⟩,.str ⟨(aJ s.data.toList a.data.toList).2.1.toArray⟩,.bool (aJ s.data.toList a.data.toList).2.2].map λd=> .c (.d d))):=by
 refine Jv (D8 Tryz.func48 rfl O2) λw Z vals h g=> ?_;obtain⟨v,u,rfl,b,l⟩:=II g;clear g;cases b;cases l;obtain⟨⟨m,i⟩,_⟩:=h.gw;refine(Any.strings_Cut Tryz.laysCu s a m w k i).mono ?_;rintro e o ⟨rfl,n,rfl⟩;refine⟨[_,_,_],rfl,jch w n,rfl,λj x v f b=> ?_⟩
 match j,f,b with
 |0,f,b=>cases f;cases b;exact .str _
 |1,f,b=>cases f;cases b;exact .str _
 |2,f,b=>cases f;cases b;exact .bool _
theorem Ze(s a:ByteArray)(p:s.size<4294967281)(k:1<=a.size)(E:(aH a 0 (aD s a) s).length=aD s a+1)(o:aD s a+1<=maxLen):CallsF Tryz.prog 47 [.c (.str s),.c (.str a)]
  (.u (.c (.d (.slice (aD s a+1) ((aH a 0 (aD s a) s).map .str))))):=by
 refine Iw (D8 Tryz.func47 rfl O2) λw Z vals i f=> ?_;obtain⟨v,u,rfl,r,q⟩:=II f;clear f;cases r;cases q;obtain⟨⟨m,g⟩,_⟩:=i.gw;refine(Any.strings_Split Tryz.laysSp O4 s a m w p g k).mono ?_;rintro e F ⟨rfl,rfl⟩;refine⟨_,rfl,(Below.refl _ w).alloc (AO _) _,.slice _ _ _ _ (λj=> .string ((aH a 0 (aD s a) s).getD j ⟨#[]⟩)) (λ_=>rfl) (AO _) o (λj x b=> ?_) (λj x b z=> ?_) (λj x b=> ?_)⟩
 ·simp only[Bf,jze]at b;obtain⟨y,h,rfl⟩:=b;have l:(w.alloc (.cells ((aH a 0 (aD s a) s).map Value.string).toArray (Tryz.laysSp_ren.t 9))).heap[w.heap.size]? =some (.cells ((aH a 0 (aD s a) s).map Value.string).toArray (Tryz.laysSp_ren.t 9) (0,0)):=by
   show(w.heap.push _)[w.heap.size]? =_;simp
  refine(Lib.cell_of_heap l _).trans ?_;simp[h]
 ·have:=i _ z;simp at this
 ·simp only[Bf,jze]at b;obtain⟨y,h,rfl⟩:=b;rw[AL,h];exact .str _
def Cl(v:Value):Nat:=match v with| .int _ n=>(n+1).toNat|_=>0
end Go.Va
namespace Go.Va
variable{a:List Nat}
theorem Rj(b:Ok a)(h:Nr a=true):a=limbs (val a):=by
 rw[<-Gc a b];rcases Nat.eq_zero_or_pos a.length with h0|h0
 ·have:a=[]:=jzv.1 h0;subst this;rfl
 ·obtain⟨n,hn⟩: ∃n,a.length=n+1:=⟨a.length - 1,O⟩
  unfold Nr at h;rw[List.getLast?_eq_getElem?,hn]at h;simp only[Nat.add_sub_cancel,decide_eq_true_eq]at h;have:Bw a a.length=a.length:=by
   rw[hn];unfold Bw;rw[if_neg];rw[AD O]at h;rw[AL,AD O];simpa using h
  rw[this,BM]
theorem Cz{neg:Bool}{b:List Nat}(h:CV neg a b=true)(m:Ok a)(o:Ok b):
  a=limbs (val a)/\b=limbs (val b)/\val b≠0/\Nat.gcd (val a) (val b)=1/\(neg=true->val a≠0):=by
 unfold CV at h;simp only[AR,Bool.not_eq_true',decide_eq_true_eq,Bool.and_eq_false_iff,decide_eq_false_iff_not]at h;obtain⟨⟨⟨⟨i,h2⟩,j⟩,k⟩,l⟩:=h;have f:=Rj m i;have g:=Rj o k;refine⟨f,g,λe=>j ?_,l,λp e=> ?_⟩
 ·rw[g,e];rfl
 ·rcases h2 with h2|h2
  ·rw[p]at h2;cases h2
  ·exact h2 (by rw[f,e];rfl)
theorem Ok.ltW(h:Ok a)(b:a.length<=8):val a<340282366920938463463374607431768211456:=jak h b
end Go.Va
namespace Go.Va
open _root_.Nat renaming gcd → aD, div_one → aG
open Int renaming natCast_add → qA, natCast_mul → qB, natCast_emod → qC, natCast_ediv → qD, natCast_pow → qE
open Go.Proofs
def RB(neg:Bool)(m d:Nat):List RC:=[.d (.bool (sg neg m)),.d (Ad (limbs (m/aD m d))),.d (Ad (limbs (d/aD m d)))]
theorem W8(neg:Bool)(a b:List Nat)(y:Ok a)(P:a.length<=900)(z:Ok b)(Q:b.length<=900)(H:val b≠0):
  CallsF Tryz.prog 223 [.agg [.bool neg,Ad a],.c (Ad b)] (.u (.agg (RB neg (val a) (val b)))):=by
 have L:=EO b z O;have M:=QB neg a y O;have S:=Bu a y;have T:=Bu b z;generalize val a=m at*;generalize val b=d at*;have k:(limbs m).length<=900:=O;have f:(limbs d).length<=900:=O;have g:=L5 (limbs m) (limbs d) (Aw _) k (Aw _) f;rw[Az,Az]at g;have r:aD m d∣d:=Nat.gcd_dvd_right m d;have J:aD m d∣m:=Nat.gcd_dvd_left m d;have I:0<aD m d:=Nat.gcd_pos_of_pos_right m O;have j:aD m d<=d:=Nat.le_of_dvd O r;have i:(limbs (aD m d)).length<=900:=Nat.le_trans (CG j) f;have d1:=LV (limbs m) (limbs (aD m d)) (Aw _) (Aw _) k i (by rw[Az];omega);have w:=LV (limbs d) (limbs (aD m d)) (Aw _) (Aw _) f i (by rw[Az];omega);rw[Az,Az]at d1 w;have E:=EK (limbs d);have F:=EK (limbs (aD m d));rw[jfj (m:=0)]at E;rw[jfj (m:=0)]at F;have l:limbs d≠[]:=λh=>H (limbs_nil.1 h);have v:m=0->aD m d=d:=λh=>by rw[h,Nat.gcd_zero_left]
 have p:d=1->aD m d=1:=λh=>by rw[h,Nat.gcd_one_right]
 have K:m=0↔limbs m=[]:=limbs_nil.symm;unfold RB;generalize N:aD m d=G at*;refine oB Tryz.func223 ?_;refine aB L ?_;refine aQ M ?_;by_cases t:m=0
 ·have e:G=d:=v t;subst t;rw[e,Nat.zero_div,Nat.div_self O];simp -implicitDefEqProofs[jJ,-qA,-qB,-qC,-qD,-qE,Cm,Ea,l];refine Ac Ir ?_;simp -implicitDefEqProofs[jJ,-qA,-qB,-qC,-qD,-qE,sg]
  try rfl
 ·have o:limbs m≠[]:=λh=>t (limbs_nil.1 h);refine rB2 l o ?_;refine Ac E ?_;by_cases q:d=1
  ·have e:G=1:=p q;rw[e,aG,aG];simp -implicitDefEqProofs[jJ,-qA,-qB,-qC,-qD,-qE,q]
  ·refine rB1 q ?_;refine aB g ?_;refine Ac F ?_;by_cases x:G=1
   ·rw[x,aG,aG];exact kB
   ·refine rB1 x ?_;refine aB d1 ?_;refine Ac w ?_;exact kB
theorem jxJ(f g:Bool)(a b c d:List Nat)(o:Ok a)(t:a.length<=400)(h:Ok b)(v:b.length<=400)(p:Ok c)(w:c.length<=400)(i:Ok d)(x:d.length<=400)(j:val b≠0)(l:val d≠0):
  CallsF Tryz.prog 349 [.agg [.bool f,Ad a,Ad b],.agg [.bool g,Ad c,Ad d]] (.u (.agg (RB (!decide (f=g)) (val a*val c) (val b*val d)))):=by
 have E:=El f a b h O j;have F:=El g c d i O l;have y:=jeD f g a c o O p O;have z:=jpQ b d h O i O;have q:=Cp a c o p;have r:=Cp b d h i;have k:=W8 (sg (!decide (f=g)) (val a*val c)) (limbs (val a*val c)) (limbs (val b*val d)) (Aw _) O (Aw _) O (by rw[Az];exact Nat.mul_ne_zero j l);rw[Az,Az]at k;have e:RB (sg (!decide (f=g)) (val a*val c)) (val a*val c) (val b*val d)=RB (!decide (f=g)) (val a*val c) (val b*val d):=by
  unfold RB;have: ∀(s:Bool) (m:Nat),sg (sg s m) m=sg s m:=by intro s m;unfold sg;cases s<;>simp
  rw[this]
 rw[e]at k;clear o t h v p w i x j l q r e;refine oB Tryz.func349 ?_;refine aB E ?_;refine aB F ?_;refine aQ y ?_;refine aB z ?_;refine Ac k ?_;simp -implicitDefEqProofs[jJ,-qA,-qB,-qC,-qD,-qE,RB]
end Go.Va
namespace Go.Va
open Go.Proofs

end Go.Va
namespace Go.Va
open Go
def B(s:ByteArray):List UInt8:=s.data.toList
structure Der.Brief (x:Der):Prop where
 m:x.fact.Wide
 ln:x.fact.args.length<=20
 lf:x.frm.length<=20
 fr: ∀a∈x.frm,-9223372036854775808<=a/\a<9223372036854775808
end Go.Va
