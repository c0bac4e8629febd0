/- TraceExtracts holds: for every deduction and fact that can be read the law returns true, and each argument reads behind the call as it read before; the listed variables are tied to the program's text. -/
import Derived.Test.YtplacedebenpaaaGreatDoorEav
import Derived.Test.YtplacedebenpaaaGreatDoorEbs
import Derived.Test.YtplacedebenpaaaGreatDoorCards
import Derived.SevenTiedAt
import Derived.Test.YtplacedebenpaaaGreatDoorETeg
import Derived.Test.YtplacedebenpaaaGreatDoorEbu
import Derived.WalkKit
set_option linter.all false
set_option maxRecDepth 100000
set_option maxHeartbeats 4000000
namespace Go.Proofs.YtplacedebenpaaaGreatDoor
open Go.Va Go.ChangeShapes Go.WideShapes Go.ChangeAt Go.RowKit
theorem jjG (u : TypeId) (h : Tryz.prog.typeName? 3 u = some "*errors.errorString") : u = 409 := by
 have st : "*" ++ "errors.errorString" = "*errors.errorString" :=O2;exact typeName_ptr_named (nm := "errors.errorString") (by rw [st]; kernel_rfl) O4 O2 u (by rw [st]; exact h)
theorem jfp {W : World} {k : Nat} {n : String} {text : List UInt8} {r : List (String × DataW Unit)} (h : laidMet Tryz.prog ((n, .iface "*errors.errorString" (.ptr (.agg [.lit (.string text)]))) :: r) W) (hg : Tryz.prog.globalNamed n = some k) (ht : (Tryz.prog.globals[k]?).map (·.type) = some 94) :
  R9 k W/\k<W.heap.size:=by
 obtain⟨a0,s0,hv0,-,-,-⟩:=laid_sentinel h hg ht Tryz.underlying94 jjG Tryz.underlying409 Tryz.underlying411 rfl rfl Tryz.underlying9 O4 O4;have h0:W.cell? ⟨k,0,none⟩=some (.iface 409 (.pointer (some a0))):=by have:=World.var?_cell hg hv0 0;simpa using this
 exact⟨⟨_,h0,.inr ⟨_,_,rfl⟩⟩,World.block_lt_of_cell? _ _ h0⟩
theorem Rb{W:World}(hs:W.ShapedOpen Tryz.prog)(hl:laidMetH Tryz.prog Rows.traceExtractsRow.laid W):ZOk W Z0 Z0:=by
 obtain⟨m,hm⟩:=cell_of_shapedOpen_int (g:=0) (t:=3) (zero:= #[.int .i64 0]) (k:= .i64) hs (of_decide_eq_true O4) O4 rfl O4 O4 O4;have hp : Tryz.prog.globalNamed "internal/strconv.uint64pow10" = some 1 :=O4;rw[MakeChecks.laidMetH_plain _ _ _ O4]at hl;have h2:=laidMet.tail (laidMet.tail hl);have ht : Lib.TabIs Tryz.prog W "internal/strconv.uint64pow10" .u64 Lib.pow10Tab := Lib.tabIs_of_head (g := 1) (t := 352) (e := 185) (n := 20) O4 O4 O4 O4 O4 O4 h2;have h4:=laidMet.tail (laidMet.tail h2);obtain⟨r1,r2⟩:=jfp (k:=5) h4 O4 O4;obtain⟨s1,s2⟩:=jfp (k:=4) (laidMet.tail h4) O4 O4;unfold Lib.TabIs World.var? at ht;rw[hp]at ht;simp only[Option.bind_some]at ht;split at ht
 ·rename_i cs t f hh;cases ht;refine⟨λ_ h=>h.elim,λk hk=>⟨?_,λad _ h=>h.elim⟩,⟨m,hm⟩,⟨t,f,hh⟩,s1,r1⟩;simp only[GB,List.mem_cons,List.not_mem_nil,or_false]at hk;rcases hk with rfl|rfl|rfl|rfl
  ·exact World.block_lt_of_cell? _ _ hm
  ·exact(Array.getElem?_eq_some_iff.1 hh).1
  ·exact s2
  ·exact r2
 ·cases ht
theorem ju4(os:Os)(b:os.Started)(H:Type)(enc:TypeId×Value->H):
  ReturnsInHanded {} Tryz.checked os 3 .any (λw args=>(Rows.traceExtractsSpec.pre enc Tryz.prog Tryz.f3 [] false w args/\laidMetH Tryz.prog Rows.traceExtractsRow.laid w)/\sizedMet enc Tryz.prog Tryz.f3 (OpenSpec.ofChange Rows.traceExtractsSpec) false w args) (Rows.traceExtractsSpec.post enc Tryz.prog Tryz.f3 false true false false):=by
 refine Z8 os b H enc O4 Tryz.func3 rfl O4 (λt p=> ?_) (λH l o=> ?_) (λW M h=>Rb M h)
  (ChangeSpec.witness_shaped (enc:=enc) (C:=Tryz.checked) (os:=os) (X:=λw _=>laidMetH Tryz.prog Rows.traceExtractsRow.laid w) false (World.laidAll Tryz.prog os Rows.traceExtractsRow.laid) #[.agg #[.slice none 0 0,.slice none 0 0],.agg #[.int .i64 0,.slice none 0 0,.bool false,.slice none 0 0,.slice none 0 0]] 8 (World.laidAll_os _ _ _)
   (World.shaped_of_ZipB O4 O4) O4 O4 O4
   (by rw[MakeChecks.laidMetH_plain _ _ _ O4];exact laidMet_laidAll _ O4 O4)) ?_
 ·rw[Tryz.params3]at p;have:t=25\/t=34:=by simpa using p
  rcases this with rfl|rfl
  ·exact⟨O4,of_decide_eq_true O4⟩
  ·exact⟨O4,of_decide_eq_true O4⟩
 ·rw[Tryz.params3]at o
  match l,o with
  |[d1,Z],_=>rfl
 ·intro W args l ps base L q m;rw[Tryz.params3]at m;obtain⟨r,Q,Y,y,p0,q0,i,rfl,rfl,I,N⟩:=trodAll_cons m;obtain⟨x,S,d1,z,p1,q1,rfl,rfl,rfl,J,P⟩:=trodAll_cons N;obtain⟨rfl,rfl,rfl⟩:=trodAll_nil P;obtain rfl:args= #[r,x]:=by cases args;simp_all
  obtain⟨T,G,k,E⟩:=jA4 I;obtain⟨f,K,F⟩:=jvK J;refine jmy (vals:=[r,x]) (jun T G f k K) L ⟨rfl,λj a v e g=> ?_⟩
  match j,e,g with
  |0,e,g=>cases e;cases g;exact E
  |1,e,g=>cases e;cases g;exact F
theorem jBo:Rows.TraceExtractsSaid:=
 OpenClaim.holds_of_wide 3 Tryz.f3 rfl rfl rfl rfl rfl rfl rfl ⟨rfl,rfl,rfl,rfl,rfl⟩ rfl rfl rfl rfl rfl traceExtracts_fn Tryz.func3 jA3
  juS jwA
  (λe a H b _=>ju4 e a H b)
theorem extracts_holds:Rows.TraceExtractsCardSaid:=
 Claim7.holds_tied_plain_at .later [] [.data, .data, .data, .data, .sentinel, .sentinel, .pinned] true (true, "600c1864018a70ffd782925b6dcd6c371efe0c222f965e6e87383bce4759d7ab") true jBo (fun _ h => by cases h) jtu (fun _ h => by cases h) traceExtracts_row_tie rfl ⟨rfl, rfl⟩ jtB rfl
  (λf fn hf hfn=>by
   obtain rfl:f=3:=Option.some.inj (traceExtracts_fn.symm.trans hf)|>.symm
   obtain rfl:fn=Tryz.f3:=(Option.some.inj (Tryz.func3.symm.trans hfn)).symm;exact⟨jxf,λj t ht=>by
    rw[Tryz.params3]at ht;have hm:t∈[25,34]:=by simpa using Array.mem_of_getElem? ht
    exact(show Tryz.pinned.checked.prog.wantsStandIn t=false by simpa using List.all_eq_true.1 jyw t hm)⟩)
  jud
end Go.Proofs.YtplacedebenpaaaGreatDoor
