/- TraceReads holds: for every string and names that can be read the law returns true, and each argument reads behind the call as it read before; the listed variables are tied to the program's text. -/
import Derived.Test.YtlgoebgnbkhmmaaGreatDoorZaz
import Derived.Test.YtlgoebgnbkhmmaaGreatDoorZbw
import Derived.Test.YtlgoebgnbkhmmaaGreatDoorCards
import Derived.SevenTiedAt
import Derived.Test.YtlgoebgnbkhmmaaGreatDoorZTdg
import Derived.Test.YtlgoebgnbkhmmaaGreatDoorZby
import Derived.WalkKit
set_option linter.all false
set_option maxRecDepth 100000
set_option maxHeartbeats 4000000
namespace Go.Proofs.YtlgoebgnbkhmmaaGreatDoor
open Go.Va Go.ChangeShapes Go.WideShapes Go.ChangeAt Go.RowKit
theorem jjG (u : TypeId) (h : Tryz.prog.typeName? 3 u = some "*errors.errorString") : u = 396 := by
 have st : "*" ++ "errors.errorString" = "*errors.errorString" := by decide
 exact typeName_ptr_named (nm := "errors.errorString") (by rw [st]; kernel_rfl) (by kernel_rfl) (by decide) u (by rw [st]; exact h)
theorem jfp {W : World} {k : Nat} {n : String} {text : List UInt8} {r : List (String × DataW Unit)} (h : laidMet Tryz.prog ((n, .iface "*errors.errorString" (.ptr (.agg [.lit (.string text)]))) :: r) W) (hg : Tryz.prog.globalNamed n = some k) (ht : (Tryz.prog.globals[k]?).map (·.type) = some 104) :
  R9 k W∧k<W.heap.size:=by
 obtain⟨a0,s0,hv0,-,-,-⟩:=laid_sentinel h hg ht Tryz.underlying104 jjG Tryz.underlying396 Tryz.underlying398 rfl rfl Tryz.underlying9 (by kernel_rfl) (by kernel_rfl)
 have h0:W.cell? ⟨k,0,none⟩=some (.iface 396 (.pointer (some a0))):=by have:=World.var?_cell hg hv0 0;simpa using this
 exact⟨⟨_,h0,.inr ⟨_,_,rfl⟩⟩,World.block_lt_of_cell? _ _ h0⟩
theorem Rb{W:World}(hs:W.ShapedOpen Tryz.prog)(hl:laidMetH Tryz.prog Rows.traceReadsRow.laid W):ZOk W Z0 Z0:=by
 obtain⟨m,hm⟩:=cell_of_shapedOpen_int (g:=0) (t:=3) (zero:= #[.int .i64 0]) (k:= .i64) hs (of_decide_eq_true (by kernel_rfl)) (by kernel_rfl) rfl (by kernel_rfl) (by kernel_rfl) (by kernel_rfl)
 have hp : Tryz.prog.globalNamed "internal/strconv.uint64pow10" = some 1 := by kernel_rfl
 rw[MakeChecks.laidMetH_plain _ _ _ (by kernel_rfl)]at hl
 have h2:=laidMet.tail (laidMet.tail hl);have ht : Lib.TabIs Tryz.prog W "internal/strconv.uint64pow10" .u64 Lib.pow10Tab := Lib.tabIs_of_head (g := 1) (t := 360) (e := 177) (n := 20) (by kernel_rfl) (by kernel_rfl) (by kernel_rfl) (by kernel_rfl) (by kernel_rfl) (by kernel_rfl) h2
 have h4:=laidMet.tail (laidMet.tail h2);obtain⟨r1,r2⟩:=jfp (k:=5) h4 (by kernel_rfl) (by kernel_rfl)
 obtain⟨s1,s2⟩:=jfp (k:=4) (laidMet.tail h4) (by kernel_rfl) (by kernel_rfl)
 unfold Lib.TabIs World.var? at ht;rw[hp]at ht;simp only[Option.bind_some]at ht;split at ht
 ·rename_i cs t f hh
  cases ht;refine⟨fun _ h=>h.elim,fun k hk=>⟨?_,fun ad _ h=>h.elim⟩,⟨m,hm⟩,⟨t,f,hh⟩,s1,r1⟩
  simp only[GB,List.mem_cons,List.not_mem_nil,or_false]at hk;rcases hk with rfl|rfl|rfl|rfl
  ·exact World.block_lt_of_cell? _ _ hm
  ·exact(Array.getElem?_eq_some_iff.1 hh).1
  ·exact s2
  ·exact r2
 ·cases ht
theorem jpq(os:Os)(started:os.Started)(H:Type)(enc:TypeId×Value→H):
  ReturnsInHanded {} Tryz.checked os 3 .any (fun w args=>(Rows.traceReadsSpec.pre enc Tryz.prog Tryz.f3 [] false w args∧laidMetH Tryz.prog Rows.traceReadsRow.laid w)∧sizedMet enc Tryz.prog Tryz.f3 (OpenSpec.ofChange Rows.traceReadsSpec) false w args) (Rows.traceReadsSpec.post enc Tryz.prog Tryz.f3 false true false false):=by
 refine Z8 os started H enc (by kernel_rfl) Tryz.func3 rfl (by kernel_rfl) (fun t ht=> ?_) (fun H ds hl=> ?_) (fun W hs h=>Rb hs h)
  (ChangeSpec.witness_shaped (enc:=enc) (C:=Tryz.checked) (os:=os) (X:=fun w _=>laidMetH Tryz.prog Rows.traceReadsRow.laid w) false (World.laidAll Tryz.prog os Rows.traceReadsRow.laid) #[.string ⟨#[]⟩,.slice none 0 0] 8 (World.laidAll_os _ _ _)
   (World.shaped_of_ZipB (by kernel_rfl) (by kernel_rfl)) (by kernel_rfl) (by kernel_rfl) (by kernel_rfl)
   (by rw[MakeChecks.laidMetH_plain _ _ _ (by kernel_rfl)];exact laidMet_laidAll _ (by kernel_rfl) (by kernel_rfl))) ?_
 ·rw[Tryz.params3]at ht
  have:t=9∨t=22:=by simpa using ht
  rcases this with rfl|rfl
  ·exact⟨by kernel_rfl,of_decide_eq_true (by kernel_rfl)⟩
  ·exact⟨by kernel_rfl,of_decide_eq_true (by kernel_rfl)⟩
 ·rw[Tryz.params3]at hl
  match ds,hl with
  |[d1,d2],_=>rfl
 ·intro W args ds ps base hg hval hA;have hp0:Tryz.f3.params[0]? =some 9:=by rw[Tryz.params3];rfl
  have hp2:Tryz.f3.params[1]? =some 22:=by rw[Tryz.params3];rfl
  rw[Tryz.params3]at hA
  obtain⟨v0,vs0,d0,ds0,p0,q0,hargs,rfl,rfl,h0,r0⟩:=trodAll_cons hA
  obtain⟨v1,vs1,d1,ds1,p1,q1,rfl,rfl,rfl,h1,r1⟩:=trodAll_cons r0
  obtain⟨rfl,rfl,rfl⟩:=trodAll_nil r1
  obtain rfl:args= #[v0,v1]:=by cases args;simp_all
  obtain⟨s,e0⟩:=jms (hval 0 _ v0 hp0 rfl) h0
  obtain⟨ns,e2⟩:=Xg (hval 1 _ v1 hp2 rfl) h1
  refine jmy (vals:=[v0,v1]) (jo9 s ns) hg ⟨rfl,fun j a v ha hv=> ?_⟩
  match j,ha,hv with
  |0,ha,hv=>cases ha;cases hv;exact e0
  |1,ha,hv=>cases ha;cases hv;exact e2
theorem jmc:Rows.TraceReadsSaid:=
 OpenClaim.holds_of_wide 3 Tryz.f3 rfl rfl rfl rfl rfl rfl rfl ⟨rfl,rfl,rfl,rfl,rfl⟩ rfl rfl rfl rfl rfl traceReads_fn Tryz.func3 jjH
  jpd jn4
  (fun os started H enc _=>jpq os started H enc)
theorem reads_holds:Rows.TraceReadsCardSaid:=
 Claim7.holds_tied_plain_at .later [] [.data, .data, .data, .data, .sentinel, .sentinel, .pinned] true (true, "e4596107c9ff4a235d341aad1a7c4d4eb4f72918fa00a7e70e78c319fb3c25b9") true jmc (fun _ h => by cases h) jnQ (fun _ h => by cases h) traceReads_row_tie rfl ⟨rfl, rfl⟩ jpg rfl
  (fun f fn hf hfn=>by
   obtain rfl:f=3:=Option.some.inj (traceReads_fn.symm.trans hf)|>.symm
   obtain rfl:fn=Tryz.f3:=(Option.some.inj (Tryz.func3.symm.trans hfn)).symm;exact⟨joA,fun j t ht=>by
    rw[Tryz.params3]at ht
    have hm:t∈[9,22]:=by simpa using Array.mem_of_getElem? ht
    exact(show Tryz.pinned.checked.prog.wantsStandIn t=false by simpa using List.all_eq_true.1 jmG t hm)⟩)
  jj9
end Go.Proofs.YtlgoebgnbkhmmaaGreatDoor
