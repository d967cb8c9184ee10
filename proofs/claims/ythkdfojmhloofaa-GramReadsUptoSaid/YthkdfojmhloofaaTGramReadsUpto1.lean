-- Merged and trimmed by this session's program wip/tools/trim.py.
import Derived.Test.YthkdfojmhloofaaProg
import Derived.Below
import Derived.Deep.Draws
import Derived.Deep.AppendLies
import Derived.Maps.AppendAt
import Derived.OwnWalk
import Derived.Laws.BytesArg
import Derived.Laws.MakeOwn
import Derived.Laws.OwnMore
import Derived.Deep.OwnRows
import Derived.Tactics
import Derived.Lib.ConvBytes
import Derived.Laws.Slices
import Derived.WalkKit
import Derived.KernelRfl
import Derived.RowKit3
import Derived.Deep.LoopGhost
import Derived.Deep.QuietTactic
import Derived.BigQuiet
import Derived.WideLaws
import Derived.Deep.DeepCutAuto
import Derived.Deep.CutBlock
import Derived.Deep.RegionHeld3
import Derived.Laws.Rows
import Derived.Lib.AppendStr
import Derived.ArgAppend
import Derived.Laws.IdiomCopy
import Derived.OrdersHeld
import Derived.Laws.BitsLemmas
import Derived.RowKit
import Derived.Deep.RegionLaw
import Derived.Deep.RegionWith
import Derived.Test.YthkdfojmhloofaaTGramReadsUpto0
section
namespace Go.Proofs.Ythkdfojmhloofaa.Q
open Go.RowKit Go.Proofs.YthkdfojmhloofaaW.PrintWords Go.Proofs.YthkdfojmhloofaaW.PrintLast Go.Proofs.YthkdfojmhloofaaW.PrintMore
attribute [local go_sem] max2_int min2_int max_two min_two max_three min_three max_four min_four   -- for this text's walks alone
set_option linter.unusedVariables false
set_option linter.unusedSimpArgs false
def errW : Option Int → Value
  | none => .nilIface
  | some c => .iface 0 (.int .i64 c)
theorem errW_none:errW none= .nilIface:=rfl
theorem errW_some (c:Int):errW (some c)= .iface 0 (.int .i64 c):=rfl
def idxByte (s:ByteArray) (c:Int):Int:=firstIdx s c.toNat.toUInt8
theorem nat77 (s:ByteArray) (c:Int) (w:World):(callFunc 77 #[.string s,.int .u8 c]).run Try.prog w= .ok (.value (.int .i64 (idxByte s c))) w:=by
  rw [run_callFunc_extern Try.func77 (by kernel_rfl) (by kernel_rfl) (by kernel_rfl) (e:=Extern.BytealgIndexByte.indexByte) (by kernel_rfl),run_indexByte_string s c];rfl
theorem bw0 {P Q  :Prop} (q:Q) (h:Q→P:=by intro q_;repeat (first|(with_reducible first|exact q_|apply below_alloc|apply pw_below_drewN|apply below_drew1)|exact q_)):P:=h q
theorem bf0 {P Q  :Prop} (q:Q) (h:Q→P:=by intro q_;(with_reducible repeat (first|refine blk_drewN ?_ _|refine blk_drew ?_|refine blk_alloc ?_ _));exact q_):P:=h q
theorem bw1 {P Q G0:Prop} (q:Q) (g0:G0) (h:Q→G0→P:=by intro q_ aa;repeat (first|(with_reducible first|exact q_|apply below_alloc|apply pw_below_drewN|apply below_drew1|refine below_set ?_ aa)|exact q_)):P:=h q g0
theorem bf1 {P Q G0:Prop} (q:Q) (g0:G0) (h:Q→G0→P:=by intro q_ aa;(with_reducible repeat (first|refine blk_drewN ?_ _|refine blk_drew ?_|refine blk_alloc ?_ _));refine blk_far ?_ aa _;(with_reducible repeat (first|refine blk_drewN ?_ _|refine blk_drew ?_|refine blk_alloc ?_ _));exact q_):P:=h q g0
theorem bw2 {P Q G0 G1:Prop} (q:Q) (g0:G0) (g1:G1) (h:Q→G0→G1→P:=by intro q_ aa ab;repeat (first|(with_reducible first|exact q_|apply below_alloc|apply pw_below_drewN|apply below_drew1|refine below_set ?_ aa|refine below_set ?_ ab)|exact q_)):P:=h q g0 g1
theorem bf2 {P Q G0 G1:Prop} (q:Q) (g0:G0) (g1:G1) (h:Q→G0→G1→P:=by intro q_ aa ab;(with_reducible repeat (first|refine blk_drewN ?_ _|refine blk_drew ?_|refine blk_alloc ?_ _));refine blk_far ?_ aa _;(with_reducible repeat (first|refine blk_drewN ?_ _|refine blk_drew ?_|refine blk_alloc ?_ _));refine blk_far ?_ ab _;(with_reducible repeat (first|refine blk_drewN ?_ _|refine blk_drew ?_|refine blk_alloc ?_ _));exact q_):P:=h q g0 g1
theorem bw3 {P Q G0 G1 G2:Prop} (q:Q) (g0:G0) (g1:G1) (g2:G2) (h:Q→G0→G1→G2→P:=by intro q_ aa ab ac;repeat (first|(with_reducible first|exact q_|apply below_alloc|apply pw_below_drewN|apply below_drew1|refine below_set ?_ aa|refine below_set ?_ ab|refine below_set ?_ ac)|exact q_)):P:=h q g0 g1 g2
theorem bw4 {P Q G0 G1 G2 G3:Prop} (q:Q) (g0:G0) (g1:G1) (g2:G2) (g3:G3) (h:Q→G0→G1→G2→G3→P:=by intro q_ aa ab ac ae;repeat (first|(with_reducible first|exact q_|apply below_alloc|apply pw_below_drewN|apply below_drew1|refine below_set ?_ aa|refine below_set ?_ ab|refine below_set ?_ ac|refine below_set ?_ ae)|exact q_)):P:=h q g0 g1 g2 g3
theorem bf4 {P Q G0 G1 G2 G3:Prop} (q:Q) (g0:G0) (g1:G1) (g2:G2) (g3:G3) (h:Q→G0→G1→G2→G3→P:=by intro q_ aa ab ac ae;(with_reducible repeat (first|refine blk_drewN ?_ _|refine blk_drew ?_|refine blk_alloc ?_ _));refine blk_far ?_ aa _;(with_reducible repeat (first|refine blk_drewN ?_ _|refine blk_drew ?_|refine blk_alloc ?_ _));refine blk_far ?_ ab _;(with_reducible repeat (first|refine blk_drewN ?_ _|refine blk_drew ?_|refine blk_alloc ?_ _));refine blk_far ?_ ac _;(with_reducible repeat (first|refine blk_drewN ?_ _|refine blk_drew ?_|refine blk_alloc ?_ _));refine blk_far ?_ ae _;(with_reducible repeat (first|refine blk_drewN ?_ _|refine blk_drew ?_|refine blk_alloc ?_ _));exact q_):P:=h q g0 g1 g2 g3
theorem bw6 {P Q G0 G1 G2 G3 G4 G5:Prop} (q:Q) (g0:G0) (g1:G1) (g2:G2) (g3:G3) (g4:G4) (g5:G5) (h:Q→G0→G1→G2→G3→G4→G5→P:=by intro q_ aa ab ac ae af ag;repeat (first|(with_reducible first|exact q_|apply below_alloc|apply pw_below_drewN|apply below_drew1|refine below_set ?_ aa|refine below_set ?_ ab|refine below_set ?_ ac|refine below_set ?_ ae|refine below_set ?_ af|refine below_set ?_ ag)|exact q_)):P:=h q g0 g1 g2 g3 g4 g5
theorem bf6 {P Q G0 G1 G2 G3 G4 G5:Prop} (q:Q) (g0:G0) (g1:G1) (g2:G2) (g3:G3) (g4:G4) (g5:G5) (h:Q→G0→G1→G2→G3→G4→G5→P:=by intro q_ aa ab ac ae af ag;(with_reducible repeat (first|refine blk_drewN ?_ _|refine blk_drew ?_|refine blk_alloc ?_ _));refine blk_far ?_ aa _;(with_reducible repeat (first|refine blk_drewN ?_ _|refine blk_drew ?_|refine blk_alloc ?_ _));refine blk_far ?_ ab _;(with_reducible repeat (first|refine blk_drewN ?_ _|refine blk_drew ?_|refine blk_alloc ?_ _));refine blk_far ?_ ac _;(with_reducible repeat (first|refine blk_drewN ?_ _|refine blk_drew ?_|refine blk_alloc ?_ _));refine blk_far ?_ ae _;(with_reducible repeat (first|refine blk_drewN ?_ _|refine blk_drew ?_|refine blk_alloc ?_ _));refine blk_far ?_ af _;(with_reducible repeat (first|refine blk_drewN ?_ _|refine blk_drew ?_|refine blk_alloc ?_ _));refine blk_far ?_ ag _;(with_reducible repeat (first|refine blk_drewN ?_ _|refine blk_drew ?_|refine blk_alloc ?_ _));exact q_):P:=h q g0 g1 g2 g3 g4 g5
theorem Bx0 {W W1 w:World}{g:Nat}{o:Obj} (q:Aside0 (W.heap[g]? =some o)) (hb:Below W1.heap.size W1 w) (h:W.heap[g]? =some o→W1.heap[g]? =some o:=by intro q_;(with_reducible repeat (first|refine blk_drewN ?_ _|refine blk_drew ?_|refine blk_alloc ?_ _));exact q_):Aside0 (w.heap[g]? =some o):=⟨blk_below (h q.out) hb⟩
theorem Nl0 {W W1:World}{g g':Nat}{o:Obj} (q:Aside0 (W.heap[g]? =some o)) (hg:g'=W1.heap.size) (h:W.heap[g]? =some o→W1.heap[g]? =some o:=by intro q_;(with_reducible repeat (first|refine blk_drewN ?_ _|refine blk_drew ?_|refine blk_alloc ?_ _));exact q_):Aside0 (g≠g'):=⟨by rw [hg];exact Nat.ne_of_lt (blk_lt (h q.out))⟩
theorem Nr0 {W W1:World}{g g':Nat}{o:Obj} (q:Aside0 (W.heap[g]? =some o)) (hg:g'=W1.heap.size) (h:W.heap[g]? =some o→W1.heap[g]? =some o:=by intro q_;(with_reducible repeat (first|refine blk_drewN ?_ _|refine blk_drew ?_|refine blk_alloc ?_ _));exact q_):Aside0 (g'≠g):=⟨by rw [hg];exact Nat.ne_of_gt (blk_lt (h q.out))⟩
theorem Bs0 {w W W1 w2:World} (q:Aside0 (Below w.heap.size w W)) (hb:Below W1.heap.size W1 w2) (h:Below w.heap.size w W→Below w.heap.size w W1:=by intro q_;repeat (first|(with_reducible first|exact q_|apply below_alloc|apply pw_below_drewN|apply below_drew1)|exact q_)):Aside0 (Below w.heap.size w w2):=⟨below_step (h q.out) hb⟩
theorem Gw0 {w W W1:World}{g:Nat} (q:Aside0 (Below w.heap.size w W)) (hg:g=W1.heap.size) (h:Below w.heap.size w W→Below w.heap.size w W1:=by intro q_;repeat (first|(with_reducible first|exact q_|apply below_alloc|apply pw_below_drewN|apply below_drew1)|exact q_)):Aside0 (w.heap.size≤g):=⟨by rw [hg];exact below_size (h q.out)⟩
theorem Bx1 {W W1 w:World}{g:Nat}{o:Obj}{G0:Prop} (q:Aside0 (W.heap[g]? =some o)) (hb:Below W1.heap.size W1 w) (g0:G0) (h:W.heap[g]? =some o→G0→W1.heap[g]? =some o:=by intro q_ aa;(with_reducible repeat (first|refine blk_drewN ?_ _|refine blk_drew ?_|refine blk_alloc ?_ _));refine blk_far ?_ aa _;(with_reducible repeat (first|refine blk_drewN ?_ _|refine blk_drew ?_|refine blk_alloc ?_ _));exact q_):Aside0 (w.heap[g]? =some o):=⟨blk_below (h q.out g0) hb⟩
theorem Nl1 {W W1:World}{g g':Nat}{o:Obj}{G0:Prop} (q:Aside0 (W.heap[g]? =some o)) (hg:g'=W1.heap.size) (g0:G0) (h:W.heap[g]? =some o→G0→W1.heap[g]? =some o:=by intro q_ aa;(with_reducible repeat (first|refine blk_drewN ?_ _|refine blk_drew ?_|refine blk_alloc ?_ _));refine blk_far ?_ aa _;(with_reducible repeat (first|refine blk_drewN ?_ _|refine blk_drew ?_|refine blk_alloc ?_ _));exact q_):Aside0 (g≠g'):=⟨by rw [hg];exact Nat.ne_of_lt (blk_lt (h q.out g0))⟩
theorem Nr1 {W W1:World}{g g':Nat}{o:Obj}{G0:Prop} (q:Aside0 (W.heap[g]? =some o)) (hg:g'=W1.heap.size) (g0:G0) (h:W.heap[g]? =some o→G0→W1.heap[g]? =some o:=by intro q_ aa;(with_reducible repeat (first|refine blk_drewN ?_ _|refine blk_drew ?_|refine blk_alloc ?_ _));refine blk_far ?_ aa _;(with_reducible repeat (first|refine blk_drewN ?_ _|refine blk_drew ?_|refine blk_alloc ?_ _));exact q_):Aside0 (g'≠g):=⟨by rw [hg];exact Nat.ne_of_gt (blk_lt (h q.out g0))⟩
theorem Bs1 {w W W1 w2:World}{G0:Prop} (q:Aside0 (Below w.heap.size w W)) (hb:Below W1.heap.size W1 w2) (g0:G0) (h:Below w.heap.size w W→G0→Below w.heap.size w W1:=by intro q_ aa;repeat (first|(with_reducible first|exact q_|apply below_alloc|apply pw_below_drewN|apply below_drew1|refine below_set ?_ aa)|exact q_)):Aside0 (Below w.heap.size w w2):=⟨below_step (h q.out g0) hb⟩
theorem Gw1 {w W W1:World}{g:Nat}{G0:Prop} (q:Aside0 (Below w.heap.size w W)) (hg:g=W1.heap.size) (g0:G0) (h:Below w.heap.size w W→G0→Below w.heap.size w W1:=by intro q_ aa;repeat (first|(with_reducible first|exact q_|apply below_alloc|apply pw_below_drewN|apply below_drew1|refine below_set ?_ aa)|exact q_)):Aside0 (w.heap.size≤g):=⟨by rw [hg];exact below_size (h q.out g0)⟩
theorem Bx2 {W W1 w:World}{g:Nat}{o:Obj}{G0 G1:Prop} (q:Aside0 (W.heap[g]? =some o)) (hb:Below W1.heap.size W1 w) (g0:G0) (g1:G1) (h:W.heap[g]? =some o→G0→G1→W1.heap[g]? =some o:=by intro q_ aa ab;(with_reducible repeat (first|refine blk_drewN ?_ _|refine blk_drew ?_|refine blk_alloc ?_ _));refine blk_far ?_ aa _;(with_reducible repeat (first|refine blk_drewN ?_ _|refine blk_drew ?_|refine blk_alloc ?_ _));refine blk_far ?_ ab _;(with_reducible repeat (first|refine blk_drewN ?_ _|refine blk_drew ?_|refine blk_alloc ?_ _));exact q_):Aside0 (w.heap[g]? =some o):=⟨blk_below (h q.out g0 g1) hb⟩
theorem Nl2 {W W1:World}{g g':Nat}{o:Obj}{G0 G1:Prop} (q:Aside0 (W.heap[g]? =some o)) (hg:g'=W1.heap.size) (g0:G0) (g1:G1) (h:W.heap[g]? =some o→G0→G1→W1.heap[g]? =some o:=by intro q_ aa ab;(with_reducible repeat (first|refine blk_drewN ?_ _|refine blk_drew ?_|refine blk_alloc ?_ _));refine blk_far ?_ aa _;(with_reducible repeat (first|refine blk_drewN ?_ _|refine blk_drew ?_|refine blk_alloc ?_ _));refine blk_far ?_ ab _;(with_reducible repeat (first|refine blk_drewN ?_ _|refine blk_drew ?_|refine blk_alloc ?_ _));exact q_):Aside0 (g≠g'):=⟨by rw [hg];exact Nat.ne_of_lt (blk_lt (h q.out g0 g1))⟩
theorem Nr2 {W W1:World}{g g':Nat}{o:Obj}{G0 G1:Prop} (q:Aside0 (W.heap[g]? =some o)) (hg:g'=W1.heap.size) (g0:G0) (g1:G1) (h:W.heap[g]? =some o→G0→G1→W1.heap[g]? =some o:=by intro q_ aa ab;(with_reducible repeat (first|refine blk_drewN ?_ _|refine blk_drew ?_|refine blk_alloc ?_ _));refine blk_far ?_ aa _;(with_reducible repeat (first|refine blk_drewN ?_ _|refine blk_drew ?_|refine blk_alloc ?_ _));refine blk_far ?_ ab _;(with_reducible repeat (first|refine blk_drewN ?_ _|refine blk_drew ?_|refine blk_alloc ?_ _));exact q_):Aside0 (g'≠g):=⟨by rw [hg];exact Nat.ne_of_gt (blk_lt (h q.out g0 g1))⟩
theorem Bs2 {w W W1 w2:World}{G0 G1:Prop} (q:Aside0 (Below w.heap.size w W)) (hb:Below W1.heap.size W1 w2) (g0:G0) (g1:G1) (h:Below w.heap.size w W→G0→G1→Below w.heap.size w W1:=by intro q_ aa ab;repeat (first|(with_reducible first|exact q_|apply below_alloc|apply pw_below_drewN|apply below_drew1|refine below_set ?_ aa|refine below_set ?_ ab)|exact q_)):Aside0 (Below w.heap.size w w2):=⟨below_step (h q.out g0 g1) hb⟩
theorem Gw2 {w W W1:World}{g:Nat}{G0 G1:Prop} (q:Aside0 (Below w.heap.size w W)) (hg:g=W1.heap.size) (g0:G0) (g1:G1) (h:Below w.heap.size w W→G0→G1→Below w.heap.size w W1:=by intro q_ aa ab;repeat (first|(with_reducible first|exact q_|apply below_alloc|apply pw_below_drewN|apply below_drew1|refine below_set ?_ aa|refine below_set ?_ ab)|exact q_)):Aside0 (w.heap.size≤g):=⟨by rw [hg];exact below_size (h q.out g0 g1)⟩
theorem Bs3 {w W W1 w2:World}{G0 G1 G2:Prop} (q:Aside0 (Below w.heap.size w W)) (hb:Below W1.heap.size W1 w2) (g0:G0) (g1:G1) (g2:G2) (h:Below w.heap.size w W→G0→G1→G2→Below w.heap.size w W1:=by intro q_ aa ab ac;repeat (first|(with_reducible first|exact q_|apply below_alloc|apply pw_below_drewN|apply below_drew1|refine below_set ?_ aa|refine below_set ?_ ab|refine below_set ?_ ac)|exact q_)):Aside0 (Below w.heap.size w w2):=⟨below_step (h q.out g0 g1 g2) hb⟩
theorem Gw3 {w W W1:World}{g:Nat}{G0 G1 G2:Prop} (q:Aside0 (Below w.heap.size w W)) (hg:g=W1.heap.size) (g0:G0) (g1:G1) (g2:G2) (h:Below w.heap.size w W→G0→G1→G2→Below w.heap.size w W1:=by intro q_ aa ab ac;repeat (first|(with_reducible first|exact q_|apply below_alloc|apply pw_below_drewN|apply below_drew1|refine below_set ?_ aa|refine below_set ?_ ab|refine below_set ?_ ac)|exact q_)):Aside0 (w.heap.size≤g):=⟨by rw [hg];exact below_size (h q.out g0 g1 g2)⟩
theorem Bx4 {W W1 w:World}{g:Nat}{o:Obj}{G0 G1 G2 G3:Prop} (q:Aside0 (W.heap[g]? =some o)) (hb:Below W1.heap.size W1 w) (g0:G0) (g1:G1) (g2:G2) (g3:G3) (h:W.heap[g]? =some o→G0→G1→G2→G3→W1.heap[g]? =some o:=by intro q_ aa ab ac ae;(with_reducible repeat (first|refine blk_drewN ?_ _|refine blk_drew ?_|refine blk_alloc ?_ _));refine blk_far ?_ aa _;(with_reducible repeat (first|refine blk_drewN ?_ _|refine blk_drew ?_|refine blk_alloc ?_ _));refine blk_far ?_ ab _;(with_reducible repeat (first|refine blk_drewN ?_ _|refine blk_drew ?_|refine blk_alloc ?_ _));refine blk_far ?_ ac _;(with_reducible repeat (first|refine blk_drewN ?_ _|refine blk_drew ?_|refine blk_alloc ?_ _));refine blk_far ?_ ae _;(with_reducible repeat (first|refine blk_drewN ?_ _|refine blk_drew ?_|refine blk_alloc ?_ _));exact q_):Aside0 (w.heap[g]? =some o):=⟨blk_below (h q.out g0 g1 g2 g3) hb⟩
theorem Nl4 {W W1:World}{g g':Nat}{o:Obj}{G0 G1 G2 G3:Prop} (q:Aside0 (W.heap[g]? =some o)) (hg:g'=W1.heap.size) (g0:G0) (g1:G1) (g2:G2) (g3:G3) (h:W.heap[g]? =some o→G0→G1→G2→G3→W1.heap[g]? =some o:=by intro q_ aa ab ac ae;(with_reducible repeat (first|refine blk_drewN ?_ _|refine blk_drew ?_|refine blk_alloc ?_ _));refine blk_far ?_ aa _;(with_reducible repeat (first|refine blk_drewN ?_ _|refine blk_drew ?_|refine blk_alloc ?_ _));refine blk_far ?_ ab _;(with_reducible repeat (first|refine blk_drewN ?_ _|refine blk_drew ?_|refine blk_alloc ?_ _));refine blk_far ?_ ac _;(with_reducible repeat (first|refine blk_drewN ?_ _|refine blk_drew ?_|refine blk_alloc ?_ _));refine blk_far ?_ ae _;(with_reducible repeat (first|refine blk_drewN ?_ _|refine blk_drew ?_|refine blk_alloc ?_ _));exact q_):Aside0 (g≠g'):=⟨by rw [hg];exact Nat.ne_of_lt (blk_lt (h q.out g0 g1 g2 g3))⟩
theorem Nr4 {W W1:World}{g g':Nat}{o:Obj}{G0 G1 G2 G3:Prop} (q:Aside0 (W.heap[g]? =some o)) (hg:g'=W1.heap.size) (g0:G0) (g1:G1) (g2:G2) (g3:G3) (h:W.heap[g]? =some o→G0→G1→G2→G3→W1.heap[g]? =some o:=by intro q_ aa ab ac ae;(with_reducible repeat (first|refine blk_drewN ?_ _|refine blk_drew ?_|refine blk_alloc ?_ _));refine blk_far ?_ aa _;(with_reducible repeat (first|refine blk_drewN ?_ _|refine blk_drew ?_|refine blk_alloc ?_ _));refine blk_far ?_ ab _;(with_reducible repeat (first|refine blk_drewN ?_ _|refine blk_drew ?_|refine blk_alloc ?_ _));refine blk_far ?_ ac _;(with_reducible repeat (first|refine blk_drewN ?_ _|refine blk_drew ?_|refine blk_alloc ?_ _));refine blk_far ?_ ae _;(with_reducible repeat (first|refine blk_drewN ?_ _|refine blk_drew ?_|refine blk_alloc ?_ _));exact q_):Aside0 (g'≠g):=⟨by rw [hg];exact Nat.ne_of_gt (blk_lt (h q.out g0 g1 g2 g3))⟩
theorem Bx6 {W W1 w:World}{g:Nat}{o:Obj}{G0 G1 G2 G3 G4 G5:Prop} (q:Aside0 (W.heap[g]? =some o)) (hb:Below W1.heap.size W1 w) (g0:G0) (g1:G1) (g2:G2) (g3:G3) (g4:G4) (g5:G5) (h:W.heap[g]? =some o→G0→G1→G2→G3→G4→G5→W1.heap[g]? =some o:=by intro q_ aa ab ac ae af ag;(with_reducible repeat (first|refine blk_drewN ?_ _|refine blk_drew ?_|refine blk_alloc ?_ _));refine blk_far ?_ aa _;(with_reducible repeat (first|refine blk_drewN ?_ _|refine blk_drew ?_|refine blk_alloc ?_ _));refine blk_far ?_ ab _;(with_reducible repeat (first|refine blk_drewN ?_ _|refine blk_drew ?_|refine blk_alloc ?_ _));refine blk_far ?_ ac _;(with_reducible repeat (first|refine blk_drewN ?_ _|refine blk_drew ?_|refine blk_alloc ?_ _));refine blk_far ?_ ae _;(with_reducible repeat (first|refine blk_drewN ?_ _|refine blk_drew ?_|refine blk_alloc ?_ _));refine blk_far ?_ af _;(with_reducible repeat (first|refine blk_drewN ?_ _|refine blk_drew ?_|refine blk_alloc ?_ _));refine blk_far ?_ ag _;(with_reducible repeat (first|refine blk_drewN ?_ _|refine blk_drew ?_|refine blk_alloc ?_ _));exact q_):Aside0 (w.heap[g]? =some o):=⟨blk_below (h q.out g0 g1 g2 g3 g4 g5) hb⟩
theorem cl2 {W:World}{g:Nat}{t:TypeId}{x0 x1:Value} (h:Aside0 (W.heap[g]? =some (.cells #[x0,x1] t (0,0)))):W.cell? ⟨g,0,none⟩=some x0∧W.cell? ⟨g,1,none⟩=some x1∧W.frozen? ⟨g,0,none⟩=false∧W.frozen? ⟨g,1,none⟩=false:=⟨(blk_cell h.out 0).trans rfl,(blk_cell h.out 1).trans rfl,blk_frozen h.out 0,blk_frozen h.out 1⟩
theorem cl4 {W:World}{g:Nat}{t:TypeId}{x0 x1 x2 x3:Value} (h:Aside0 (W.heap[g]? =some (.cells #[x0,x1,x2,x3] t (0,0)))):W.cell? ⟨g,0,none⟩=some x0∧W.cell? ⟨g,1,none⟩=some x1∧W.cell? ⟨g,2,none⟩=some x2∧W.cell? ⟨g,3,none⟩=some x3∧W.frozen? ⟨g,0,none⟩=false∧W.frozen? ⟨g,1,none⟩=false∧W.frozen? ⟨g,2,none⟩=false∧W.frozen? ⟨g,3,none⟩=false:=⟨(blk_cell h.out 0).trans rfl,(blk_cell h.out 1).trans rfl,(blk_cell h.out 2).trans rfl,(blk_cell h.out 3).trans rfl,blk_frozen h.out 0,blk_frozen h.out 1,blk_frozen h.out 2,blk_frozen h.out 3⟩
theorem cl7 {W:World}{g:Nat}{t:TypeId}{x0 x1 x2 x3 x4 x5 x6:Value} (h:Aside0 (W.heap[g]? =some (.cells #[x0,x1,x2,x3,x4,x5,x6] t (0,0)))):W.cell? ⟨g,0,none⟩=some x0∧W.cell? ⟨g,1,none⟩=some x1∧W.cell? ⟨g,2,none⟩=some x2∧W.cell? ⟨g,3,none⟩=some x3∧W.cell? ⟨g,4,none⟩=some x4∧W.cell? ⟨g,5,none⟩=some x5∧W.cell? ⟨g,6,none⟩=some x6∧W.frozen? ⟨g,0,none⟩=false∧W.frozen? ⟨g,1,none⟩=false∧W.frozen? ⟨g,2,none⟩=false∧W.frozen? ⟨g,3,none⟩=false∧W.frozen? ⟨g,4,none⟩=false∧W.frozen? ⟨g,5,none⟩=false∧W.frozen? ⟨g,6,none⟩=false:=⟨(blk_cell h.out 0).trans rfl,(blk_cell h.out 1).trans rfl,(blk_cell h.out 2).trans rfl,(blk_cell h.out 3).trans rfl,(blk_cell h.out 4).trans rfl,(blk_cell h.out 5).trans rfl,(blk_cell h.out 6).trans rfl,blk_frozen h.out 0,blk_frozen h.out 1,blk_frozen h.out 2,blk_frozen h.out 3,blk_frozen h.out 4,blk_frozen h.out 5,blk_frozen h.out 6⟩
theorem cl12 {W:World}{g:Nat}{t:TypeId}{x0 x1 x2 x3 x4 x5 x6 x7 x8 x9 A B:Value} (h:Aside0 (W.heap[g]? =some (.cells #[x0,x1,x2,x3,x4,x5,x6,x7,x8,x9,A,B] t (0,0)))):W.cell? ⟨g,0,none⟩=some x0∧W.cell? ⟨g,1,none⟩=some x1∧W.cell? ⟨g,2,none⟩=some x2∧W.cell? ⟨g,3,none⟩=some x3∧W.cell? ⟨g,4,none⟩=some x4∧W.cell? ⟨g,5,none⟩=some x5∧W.cell? ⟨g,6,none⟩=some x6∧W.cell? ⟨g,7,none⟩=some x7∧W.cell? ⟨g,8,none⟩=some x8∧W.cell? ⟨g,9,none⟩=some x9∧W.cell? ⟨g,10,none⟩=some A∧W.cell? ⟨g,11,none⟩=some B∧W.frozen? ⟨g,0,none⟩=false∧W.frozen? ⟨g,1,none⟩=false∧W.frozen? ⟨g,2,none⟩=false∧W.frozen? ⟨g,3,none⟩=false∧W.frozen? ⟨g,4,none⟩=false∧W.frozen? ⟨g,5,none⟩=false∧W.frozen? ⟨g,6,none⟩=false∧W.frozen? ⟨g,7,none⟩=false∧W.frozen? ⟨g,8,none⟩=false∧W.frozen? ⟨g,9,none⟩=false∧W.frozen? ⟨g,10,none⟩=false∧W.frozen? ⟨g,11,none⟩=false:=⟨(blk_cell h.out 0).trans rfl,(blk_cell h.out 1).trans rfl,(blk_cell h.out 2).trans rfl,(blk_cell h.out 3).trans rfl,(blk_cell h.out 4).trans rfl,(blk_cell h.out 5).trans rfl,(blk_cell h.out 6).trans rfl,(blk_cell h.out 7).trans rfl,(blk_cell h.out 8).trans rfl,(blk_cell h.out 9).trans rfl,(blk_cell h.out 10).trans rfl,(blk_cell h.out 11).trans rfl,blk_frozen h.out 0,blk_frozen h.out 1,blk_frozen h.out 2,blk_frozen h.out 3,blk_frozen h.out 4,blk_frozen h.out 5,blk_frozen h.out 6,blk_frozen h.out 7,blk_frozen h.out 8,blk_frozen h.out 9,blk_frozen h.out 10,blk_frozen h.out 11⟩
theorem cl13 {W:World}{g:Nat}{t:TypeId}{x0 x1 x2 x3 x4 x5 x6 x7 x8 x9 A B C:Value} (h:Aside0 (W.heap[g]? =some (.cells #[x0,x1,x2,x3,x4,x5,x6,x7,x8,x9,A,B,C] t (0,0)))):W.cell? ⟨g,0,none⟩=some x0∧W.cell? ⟨g,1,none⟩=some x1∧W.cell? ⟨g,2,none⟩=some x2∧W.cell? ⟨g,3,none⟩=some x3∧W.cell? ⟨g,4,none⟩=some x4∧W.cell? ⟨g,5,none⟩=some x5∧W.cell? ⟨g,6,none⟩=some x6∧W.cell? ⟨g,7,none⟩=some x7∧W.cell? ⟨g,8,none⟩=some x8∧W.cell? ⟨g,9,none⟩=some x9∧W.cell? ⟨g,10,none⟩=some A∧W.cell? ⟨g,11,none⟩=some B∧W.cell? ⟨g,12,none⟩=some C∧W.frozen? ⟨g,0,none⟩=false∧W.frozen? ⟨g,1,none⟩=false∧W.frozen? ⟨g,2,none⟩=false∧W.frozen? ⟨g,3,none⟩=false∧W.frozen? ⟨g,4,none⟩=false∧W.frozen? ⟨g,5,none⟩=false∧W.frozen? ⟨g,6,none⟩=false∧W.frozen? ⟨g,7,none⟩=false∧W.frozen? ⟨g,8,none⟩=false∧W.frozen? ⟨g,9,none⟩=false∧W.frozen? ⟨g,10,none⟩=false∧W.frozen? ⟨g,11,none⟩=false∧W.frozen? ⟨g,12,none⟩=false:=⟨(blk_cell h.out 0).trans rfl,(blk_cell h.out 1).trans rfl,(blk_cell h.out 2).trans rfl,(blk_cell h.out 3).trans rfl,(blk_cell h.out 4).trans rfl,(blk_cell h.out 5).trans rfl,(blk_cell h.out 6).trans rfl,(blk_cell h.out 7).trans rfl,(blk_cell h.out 8).trans rfl,(blk_cell h.out 9).trans rfl,(blk_cell h.out 10).trans rfl,(blk_cell h.out 11).trans rfl,(blk_cell h.out 12).trans rfl,blk_frozen h.out 0,blk_frozen h.out 1,blk_frozen h.out 2,blk_frozen h.out 3,blk_frozen h.out 4,blk_frozen h.out 5,blk_frozen h.out 6,blk_frozen h.out 7,blk_frozen h.out 8,blk_frozen h.out 9,blk_frozen h.out 10,blk_frozen h.out 11,blk_frozen h.out 12⟩
theorem cl14 {W:World}{g:Nat}{t:TypeId}{x0 x1 x2 x3 x4 x5 x6 x7 x8 x9 A B C D:Value} (h:Aside0 (W.heap[g]? =some (.cells #[x0,x1,x2,x3,x4,x5,x6,x7,x8,x9,A,B,C,D] t (0,0)))):W.cell? ⟨g,0,none⟩=some x0∧W.cell? ⟨g,1,none⟩=some x1∧W.cell? ⟨g,2,none⟩=some x2∧W.cell? ⟨g,3,none⟩=some x3∧W.cell? ⟨g,4,none⟩=some x4∧W.cell? ⟨g,5,none⟩=some x5∧W.cell? ⟨g,6,none⟩=some x6∧W.cell? ⟨g,7,none⟩=some x7∧W.cell? ⟨g,8,none⟩=some x8∧W.cell? ⟨g,9,none⟩=some x9∧W.cell? ⟨g,10,none⟩=some A∧W.cell? ⟨g,11,none⟩=some B∧W.cell? ⟨g,12,none⟩=some C∧W.cell? ⟨g,13,none⟩=some D∧W.frozen? ⟨g,0,none⟩=false∧W.frozen? ⟨g,1,none⟩=false∧W.frozen? ⟨g,2,none⟩=false∧W.frozen? ⟨g,3,none⟩=false∧W.frozen? ⟨g,4,none⟩=false∧W.frozen? ⟨g,5,none⟩=false∧W.frozen? ⟨g,6,none⟩=false∧W.frozen? ⟨g,7,none⟩=false∧W.frozen? ⟨g,8,none⟩=false∧W.frozen? ⟨g,9,none⟩=false∧W.frozen? ⟨g,10,none⟩=false∧W.frozen? ⟨g,11,none⟩=false∧W.frozen? ⟨g,12,none⟩=false∧W.frozen? ⟨g,13,none⟩=false:=⟨(blk_cell h.out 0).trans rfl,(blk_cell h.out 1).trans rfl,(blk_cell h.out 2).trans rfl,(blk_cell h.out 3).trans rfl,(blk_cell h.out 4).trans rfl,(blk_cell h.out 5).trans rfl,(blk_cell h.out 6).trans rfl,(blk_cell h.out 7).trans rfl,(blk_cell h.out 8).trans rfl,(blk_cell h.out 9).trans rfl,(blk_cell h.out 10).trans rfl,(blk_cell h.out 11).trans rfl,(blk_cell h.out 12).trans rfl,(blk_cell h.out 13).trans rfl,blk_frozen h.out 0,blk_frozen h.out 1,blk_frozen h.out 2,blk_frozen h.out 3,blk_frozen h.out 4,blk_frozen h.out 5,blk_frozen h.out 6,blk_frozen h.out 7,blk_frozen h.out 8,blk_frozen h.out 9,blk_frozen h.out 10,blk_frozen h.out 11,blk_frozen h.out 12,blk_frozen h.out 13⟩
theorem eS {P:Prop} (h:P:=by first|rfl|(simp [errW_none,errW_some] <;> rfl)|(simp [*,errW_none,errW_some] <;> rfl)):P:=h
theorem Ax {p:Prop} (h:p):Aside0 p:=⟨h⟩
abbrev tr:Bool:=true
abbrev fa:Bool:=false
theorem rS {P:Prop} (h:P:=by first|rfl|(simp;done)|(simp [*];done)):P:=h
theorem gS {P:Prop} (h:P:=by (try simp only[List.map_toArray,List.map_cons,List.map_nil]);first|done|rfl|(simp only[List.length_drop,List.length_take];rfl)|(simp only[Int.toNat_natCast,ByteArray.extract_zero_size];rfl)|(simp only[Int.toNat_natCast,ByteArray.extract_zero_size];done)):P:=h
theorem sP:(∀ (a:Act) (d:Tmp) (v:Value),Act.put a (some d) v= {a with tmps:=a.tmps.setIfInBounds d v})∧(∀ (a:Act) (v:Value),Act.put a none v=a)∧(∀ (l:List Value) (i:Nat) (a:Value),l.toArray.setIfInBounds i a=(l.set i a).toArray)∧(∀ (l:List Value) (x a:Value),(x :: l).set 0 a=a :: l)∧(∀ (l:List Value) (x a:Value) (n:Nat),(x :: l).set (n+1) a=x :: l.set n a)∧(∀ n:Int,IntKind.i64.wrap n=Go.RowKit.wrap64 n)∧(∀ n:Int,IntKind.i32.wrap n=Go.RowKit.wrap32 n):=⟨fun _ _ _=>rfl,fun _ _=>rfl,fun _ _ _=>List.setIfInBounds_toArray ..,fun _ _ _=>rfl,fun _ _ _ _=>rfl,i64_w,i32_w⟩
abbrev Z:Bool:=true
abbrev Y:Bool:=false
theorem dT {p:Prop}[Decidable p] (h:p):decide p=true:=decide_eq_true h
theorem dF {p:Prop}[Decidable p] (h:¬p):decide p=false:=decide_eq_false h
theorem bI {α β:Type}{o:Option α}{f:α→Option β}{b:β} (h:o.bind f=some b):∃ a,o=some a∧f a=some b:=Option.bind_eq_some_iff.mp h
theorem bX {P:Program}{A:Array Oper}{B:List Oper}{o:Oper}{a:Act}{Q:Exit→Act→World→Prop}{W:World}{N:Tmp}{cs:Array Value}{t:TypeId} (h:∀ g,g=W.heap.size→∀ w1,w1.heap[g]? =some (.cells cs t (0,0))→Below W.heap.size W w1→wpList P A Q B (a.put o.dst (.pointer (some ⟨g,0,none⟩))) w1) (hg:o.guard=none:=by rfl) (hd:o.dst=some N:=by rfl) (hr:(execOp a.eval o).run P W= .ok (.value (.pointer (some ⟨W.heap.size,0,none⟩))) (W.alloc (.cells cs t (0,0))):=by first|(go_simp;done)|(go_simp;rfl)):wpList P A Q (o :: B) a W:=box_event hg hd hr h
theorem gB {Q P : Prop} (q : Q) (h : Q → P := by intro q_; (repeat (first | with_reducible refine blk_drewN ?_ _ | with_reducible refine blk_drew ?_ | with_reducible refine blk_alloc ?_ _ | with_reducible apply blk_put)); (exact q_); (all_goals ((try simp only [sP]); (try rfl)))) : P := h q
theorem pz {P : Program} {A : Array Oper} {Q : Exit → Act → World → Prop} {md : Region.Mode} {S : World → Prop} {ds : List Nat} {T : Bool × List (List Nat × List Nat)} {oi : Oper} {v : Value} {B : Nat} {l : Array Bool} {a a' : Act} {w : World} (i n : Nat) (l' : Array Bool) (hT : rtab md A = T)
    (h : wpAnyLast P md A Q S ds B l' a' w) (hk : anyT T l.toList l'.toList i = true := by kernel_rfl) (hi : A[i]? = some oi := by rfl) (hN : oi.dst = some n := by rfl) (hQ : ∀ c a w, Q (.panic c) (a.put oi.dst v) w → Q (.panic c) a w := by exact fun _ _ _ h => h)
    (hy : Yields P A oi v a := by refine Or.inl ⟨by rfl, ?_⟩; intro w'; go_simp; with_reducible rfl) (ha : a.put (some n) v = a' := by simp only [sP]; rfl) : wpAnyLast P md A Q S ds (B + 1) l a w :=
  pure_ l' hi hN (any_of hT hk) hQ hy ha h
theorem gF {R Q P : Prop} (r : R) (q : Q) (h : R → Q → P := by intro r_ q_; (repeat (first | with_reducible refine blk_drewN ?_ _ | with_reducible refine blk_drew ?_ | with_reducible refine blk_alloc ?_ _ | with_reducible apply blk_put | refine blk_far ?_ (by first | exact r_ | exact r_.1 | exact r_.2 | exact r_.2.1 | exact r_.2.2 | exact r_.2.2.1 | exact r_.2.2.2) _)); (exact q_); (all_goals ((try simp only [sP]); (try rfl)))) : P := h r q
theorem gK {Q P : Prop} (q : Q) (h : Q → P := by intro q_; (repeat (refine And.intro ((blk_cell q_ _).trans rfl) ?_)); exact (blk_cell q_ _).trans rfl) : P := h q
theorem gL {R Q P : Prop} (r : R) (q : Q) (h : R → Q → P := by intro r_ q_; (repeat (refine And.intro ?_ ?_; (· (repeat (refine Eq.trans (cell_far (by exact r_) _) ?_)); exact q_.1); replace q_ := q_.2)); (repeat (refine Eq.trans (cell_far (by exact r_) _) ?_)); exact q_) : P := h r q
theorem pu {P : Program} {A : Array Oper} {Q : Exit → Act → World → Prop} {md : Region.Mode} {S : World → Prop} {ds : List Nat} {T : Bool × List (List Nat × List Nat)} {oi : Oper} {B : Nat} {l : Array Bool} {a a' : Act} {w : World} (i n : Nat) (l' : Array Bool) (hT : rtab md A = T)
    (h : wpAnyLast P md A Q S ds B l' a' w) (hk : anyT T l.toList l'.toList i = true := by kernel_rfl) (hi : A[i]? = some oi := by rfl) (hN : oi.dst = some n := by rfl) (hQ : ∀ c a w, Q (.panic c) (a.put oi.dst undef) w → Q (.panic c) a w := by exact fun _ _ _ h => h)
    (hy : Yields P A oi undef a := by exact Or.inr ⟨by rfl, rfl⟩) (ha : a.put (some n) undef = a' := by simp only [sP]; rfl) : wpAnyLast P md A Q S ds (B + 1) l a w :=
  pure_ l' hi hN (any_of hT hk) hQ hy ha h
theorem info3:(Try.prog.info? 3).map (fun i=>(i.zero,i.size,i.bytes))=some (some (.int .i64 0),1,8):=by kernel_rfl
theorem info5:(Try.prog.info? 5).map (fun i=>(i.zero,i.size,i.bytes))=some (some (.int .u8 0),1,1):=by kernel_rfl
theorem info24:(Try.prog.info? 24).map (fun i=>(i.zero,i.size,i.bytes))=some (some (.agg #[(.int .u8 0),(.string ⟨#[]⟩)]),2,24):=by kernel_rfl
theorem info38:(Try.prog.info? 38).map (fun i=>(i.zero,i.size,i.bytes))=some (some (.agg #[(.int .u8 0),(.int .i64 0),(.int .u64 0),(.int .i64 0),(.bool false),(.int .u64 0),(.int .u64 0),(.int .i64 0),(.int .u8 0),(.int .i64 0),(.int .i64 0),(.int .i64 0),(.int .i64 0)]),13,104):=by kernel_rfl
structure S24 where
  f0 : Int
  f1 : ByteArray
def z24:S24:=⟨(0:Int),(⟨#[]⟩:ByteArray)⟩
def k24:Kd S24:=Kd.iso (Kd.pair (Kd.int .u8) Kd.string) (fun x:S24=>(x.f0,x.f1))
theorem k24_open {w:World}{x:S24}{cs:List Value} (h:k24.K w x cs):cs= [.int .u8 x.f0,.string x.f1]:=by
  obtain⟨_,_,rfl,rfl,rfl⟩:=h;exact rfl
theorem k24_mkM (w:World) (base:Nat) (ok:Nat→Prop) (x:S24)  :k24.M w base ok x [.int .u8 x.f0,.string x.f1]:=⟨[.int .u8 x.f0], [.string x.f1],rfl,rfl,rfl⟩
def rd_T24 (xs:List S24) (i:Int):S24:=xs.getD i.toNat z24
theorem at_T24 {w:World}{A:Option Addr}{n:Nat}{xs:List S24} (h:Kd.C k24 w A n xs) (i:Int) (h0:0≤i) (h1:i<n): ∃ ad,A=some ad∧w.cell? (ad.add (i.toNat * 2))=some (.int .u8 (rd_T24 xs i).f0)∧w.cell? ⟨(ad.add (i.toNat * 2)).block,(ad.add (i.toNat * 2)).off+1,none⟩=some (.string (rd_T24 xs i).f1):=by
  obtain⟨ad,c,e,_,hK,aa⟩:=Kd.C_get h z24 i h0 h1;have hc: ∀ j u,c[j]? =some u→w.cell? (ad.add (i.toNat * 2+j))=some u:=aa;obtain rfl:=k24_open hK;exact⟨ad,e,hc 0 _ rfl,by rw [← add_field _ _ 1 (by omega)];exact hc 1 _ rfl⟩
structure S28 where
  f0 : Int
  f1 : Int
def z28:S28:=⟨(0:Int),(0:Int)⟩
def k28:Kd S28:=Kd.iso (Kd.pair (Kd.int .u64) (Kd.int .u64)) (fun x:S28=>(x.f0,x.f1))
theorem k28_open {w:World}{x:S28}{cs:List Value} (h:k28.K w x cs):cs= [.int .u64 x.f0,.int .u64 x.f1]:=by
  obtain⟨_,_,rfl,rfl,rfl⟩:=h;exact rfl
theorem k28_mkM (w:World) (base:Nat) (ok:Nat→Prop) (x:S28)  :k28.M w base ok x [.int .u64 x.f0,.int .u64 x.f1]:=⟨[.int .u64 x.f0], [.int .u64 x.f1],rfl,rfl,rfl⟩
structure S30 where
  f0 : Bool
  f1 : S28
  f2 : Int
def z30:S30:=⟨false,z28,(0:Int)⟩
def k30:Kd S30:=Kd.iso (Kd.pair Kd.bool (Kd.pair k28 (Kd.int .i64))) (fun x:S30=>(x.f0,x.f1,x.f2))
theorem k30_open {w:World}{x:S30}{cs:List Value} (h:k30.K w x cs):cs= [.bool x.f0,.int .u64 x.f1.f0,.int .u64 x.f1.f1,.int .i64 x.f2]:=by
  obtain⟨_,_,rfl,rfl,⟨_,_,rfl,s1,rfl⟩⟩:=h;obtain rfl:=k28_open s1;exact rfl
theorem k30_mkM (w:World) (base:Nat) (ok:Nat→Prop) (x:S30)  :k30.M w base ok x [.bool x.f0,.int .u64 x.f1.f0,.int .u64 x.f1.f1,.int .i64 x.f2]:=⟨[.bool x.f0], [.int .u64 x.f1.f0,.int .u64 x.f1.f1,.int .i64 x.f2],rfl,rfl,⟨[.int .u64 x.f1.f0,.int .u64 x.f1.f1], [.int .i64 x.f2],rfl,(k28_mkM w base ok x.f1),rfl⟩⟩
structure S33 where
  f0 : Int
  f1 : Int
def z33:S33:=⟨(0:Int),(0:Int)⟩
def k33:Kd S33:=Kd.iso (Kd.pair (Kd.int .u8) (Kd.int .i64)) (fun x:S33=>(x.f0,x.f1))
theorem k33_open {w:World}{x:S33}{cs:List Value} (h:k33.K w x cs):cs= [.int .u8 x.f0,.int .i64 x.f1]:=by
  obtain⟨_,_,rfl,rfl,rfl⟩:=h;exact rfl
theorem k33_mkM (w:World) (base:Nat) (ok:Nat→Prop) (x:S33)  :k33.M w base ok x [.int .u8 x.f0,.int .i64 x.f1]:=⟨[.int .u8 x.f0], [.int .i64 x.f1],rfl,rfl,rfl⟩
structure S35 where
  f0 : Int
  f1 : Int
  f2 : Int
  f3 : Int
  f4 : S30
  f5 : S33
  f6 : Int
  f7 : Int
def z35:S35:=⟨(0:Int),(0:Int),(0:Int),(0:Int),z30,z33,(0:Int),(0:Int)⟩
def k35:Kd S35:=Kd.iso (Kd.pair (Kd.int .u8) (Kd.pair (Kd.int .i64) (Kd.pair (Kd.int .u64) (Kd.pair (Kd.int .i64) (Kd.pair k30 (Kd.pair k33 (Kd.pair (Kd.int .i64) (Kd.int .i64)))))))) (fun x:S35=>(x.f0,x.f1,x.f2,x.f3,x.f4,x.f5,x.f6,x.f7))
theorem k35_open {w:World}{x:S35}{cs:List Value} (h:k35.K w x cs):cs= [.int .u8 x.f0,.int .i64 x.f1,.int .u64 x.f2,.int .i64 x.f3,.bool x.f4.f0,.int .u64 x.f4.f1.f0,.int .u64 x.f4.f1.f1,.int .i64 x.f4.f2,.int .u8 x.f5.f0,.int .i64 x.f5.f1,.int .i64 x.f6,.int .i64 x.f7]:=by
  obtain⟨_,_,rfl,rfl,⟨_,_,rfl,rfl,⟨_,_,rfl,rfl,⟨_,_,rfl,rfl,⟨_,_,rfl,s4,⟨_,_,rfl,s8,⟨_,_,rfl,rfl,rfl⟩⟩⟩⟩⟩⟩⟩:=h;obtain rfl:=k30_open s4;obtain rfl:=k33_open s8;exact rfl
theorem k35_mkM (w:World) (base:Nat) (ok:Nat→Prop) (x:S35)  :k35.M w base ok x [.int .u8 x.f0,.int .i64 x.f1,.int .u64 x.f2,.int .i64 x.f3,.bool x.f4.f0,.int .u64 x.f4.f1.f0,.int .u64 x.f4.f1.f1,.int .i64 x.f4.f2,.int .u8 x.f5.f0,.int .i64 x.f5.f1,.int .i64 x.f6,.int .i64 x.f7]:=⟨[.int .u8 x.f0], [.int .i64 x.f1,.int .u64 x.f2,.int .i64 x.f3,.bool x.f4.f0,.int .u64 x.f4.f1.f0,.int .u64 x.f4.f1.f1,.int .i64 x.f4.f2,.int .u8 x.f5.f0,.int .i64 x.f5.f1,.int .i64 x.f6,.int .i64 x.f7],rfl,rfl,⟨[.int .i64 x.f1], [.int .u64 x.f2,.int .i64 x.f3,.bool x.f4.f0,.int .u64 x.f4.f1.f0,.int .u64 x.f4.f1.f1,.int .i64 x.f4.f2,.int .u8 x.f5.f0,.int .i64 x.f5.f1,.int .i64 x.f6,.int .i64 x.f7],rfl,rfl,⟨[.int .u64 x.f2], [.int .i64 x.f3,.bool x.f4.f0,.int .u64 x.f4.f1.f0,.int .u64 x.f4.f1.f1,.int .i64 x.f4.f2,.int .u8 x.f5.f0,.int .i64 x.f5.f1,.int .i64 x.f6,.int .i64 x.f7],rfl,rfl,⟨[.int .i64 x.f3], [.bool x.f4.f0,.int .u64 x.f4.f1.f0,.int .u64 x.f4.f1.f1,.int .i64 x.f4.f2,.int .u8 x.f5.f0,.int .i64 x.f5.f1,.int .i64 x.f6,.int .i64 x.f7],rfl,rfl,⟨[.bool x.f4.f0,.int .u64 x.f4.f1.f0,.int .u64 x.f4.f1.f1,.int .i64 x.f4.f2], [.int .u8 x.f5.f0,.int .i64 x.f5.f1,.int .i64 x.f6,.int .i64 x.f7],rfl,(k30_mkM w base ok x.f4),⟨[.int .u8 x.f5.f0,.int .i64 x.f5.f1], [.int .i64 x.f6,.int .i64 x.f7],rfl,(k33_mkM w base ok x.f5),⟨[.int .i64 x.f6], [.int .i64 x.f7],rfl,rfl,rfl⟩⟩⟩⟩⟩⟩⟩
def rd_T35 (xs:List S35) (i:Int):S35:=xs.getD i.toNat z35
theorem at_T35 {w:World}{A:Option Addr}{n:Nat}{xs:List S35} (h:Kd.C k35 w A n xs) (i:Int) (h0:0≤i) (h1:i<n): ∃ ad,A=some ad∧w.cell? (ad.add (i.toNat * 12))=some (.int .u8 (rd_T35 xs i).f0)∧w.cell? ⟨(ad.add (i.toNat * 12)).block,(ad.add (i.toNat * 12)).off+1,none⟩=some (.int .i64 (rd_T35 xs i).f1)∧w.cell? ⟨(ad.add (i.toNat * 12)).block,(ad.add (i.toNat * 12)).off+2,none⟩=some (.int .u64 (rd_T35 xs i).f2)∧w.cell? ⟨(ad.add (i.toNat * 12)).block,(ad.add (i.toNat * 12)).off+3,none⟩=some (.int .i64 (rd_T35 xs i).f3)∧w.cell? ⟨(ad.add (i.toNat * 12)).block,(ad.add (i.toNat * 12)).off+4,none⟩=some (.bool (rd_T35 xs i).f4.f0)∧w.cell? ⟨(ad.add (i.toNat * 12)).block,(ad.add (i.toNat * 12)).off+5,none⟩=some (.int .u64 (rd_T35 xs i).f4.f1.f0)∧w.cell? ⟨(ad.add (i.toNat * 12)).block,(ad.add (i.toNat * 12)).off+6,none⟩=some (.int .u64 (rd_T35 xs i).f4.f1.f1)∧w.cell? ⟨(ad.add (i.toNat * 12)).block,(ad.add (i.toNat * 12)).off+7,none⟩=some (.int .i64 (rd_T35 xs i).f4.f2)∧w.cell? ⟨(ad.add (i.toNat * 12)).block,(ad.add (i.toNat * 12)).off+8,none⟩=some (.int .u8 (rd_T35 xs i).f5.f0)∧w.cell? ⟨(ad.add (i.toNat * 12)).block,(ad.add (i.toNat * 12)).off+9,none⟩=some (.int .i64 (rd_T35 xs i).f5.f1)∧w.cell? ⟨(ad.add (i.toNat * 12)).block,(ad.add (i.toNat * 12)).off+10,none⟩=some (.int .i64 (rd_T35 xs i).f6)∧w.cell? ⟨(ad.add (i.toNat * 12)).block,(ad.add (i.toNat * 12)).off+11,none⟩=some (.int .i64 (rd_T35 xs i).f7):=by
  obtain⟨ad,c,e,_,hK,aa⟩:=Kd.C_get h z35 i h0 h1;have hc: ∀ j u,c[j]? =some u→w.cell? (ad.add (i.toNat * 12+j))=some u:=aa;obtain rfl:=k35_open hK;exact⟨ad,e,hc 0 _ rfl,by rw [← add_field _ _ 1 (by omega)];exact hc 1 _ rfl,by rw [← add_field _ _ 2 (by omega)];exact hc 2 _ rfl,by rw [← add_field _ _ 3 (by omega)];exact hc 3 _ rfl,by rw [← add_field _ _ 4 (by omega)];exact hc 4 _ rfl,by rw [← add_field _ _ 5 (by omega)];exact hc 5 _ rfl,by rw [← add_field _ _ 6 (by omega)];exact hc 6 _ rfl,by rw [← add_field _ _ 7 (by omega)];exact hc 7 _ rfl,by rw [← add_field _ _ 8 (by omega)];exact hc 8 _ rfl,by rw [← add_field _ _ 9 (by omega)];exact hc 9 _ rfl,by rw [← add_field _ _ 10 (by omega)];exact hc 10 _ rfl,by rw [← add_field _ _ 11 (by omega)];exact hc 11 _ rfl⟩
structure S38 where
  f0 : S35
  f1 : Int
def z38:S38:=⟨z35,(0:Int)⟩
def k38:Kd S38:=Kd.iso (Kd.pair k35 (Kd.int .i64)) (fun x:S38=>(x.f0,x.f1))
theorem k38_open {w:World}{x:S38}{cs:List Value} (h:k38.K w x cs):cs= [.int .u8 x.f0.f0,.int .i64 x.f0.f1,.int .u64 x.f0.f2,.int .i64 x.f0.f3,.bool x.f0.f4.f0,.int .u64 x.f0.f4.f1.f0,.int .u64 x.f0.f4.f1.f1,.int .i64 x.f0.f4.f2,.int .u8 x.f0.f5.f0,.int .i64 x.f0.f5.f1,.int .i64 x.f0.f6,.int .i64 x.f0.f7,.int .i64 x.f1]:=by
  obtain⟨_,_,rfl,s0,rfl⟩:=h;obtain rfl:=k35_open s0;exact rfl
theorem k38_mkM (w:World) (base:Nat) (ok:Nat→Prop) (x:S38)  :k38.M w base ok x [.int .u8 x.f0.f0,.int .i64 x.f0.f1,.int .u64 x.f0.f2,.int .i64 x.f0.f3,.bool x.f0.f4.f0,.int .u64 x.f0.f4.f1.f0,.int .u64 x.f0.f4.f1.f1,.int .i64 x.f0.f4.f2,.int .u8 x.f0.f5.f0,.int .i64 x.f0.f5.f1,.int .i64 x.f0.f6,.int .i64 x.f0.f7,.int .i64 x.f1]:=⟨[.int .u8 x.f0.f0,.int .i64 x.f0.f1,.int .u64 x.f0.f2,.int .i64 x.f0.f3,.bool x.f0.f4.f0,.int .u64 x.f0.f4.f1.f0,.int .u64 x.f0.f4.f1.f1,.int .i64 x.f0.f4.f2,.int .u8 x.f0.f5.f0,.int .i64 x.f0.f5.f1,.int .i64 x.f0.f6,.int .i64 x.f0.f7], [.int .i64 x.f1],rfl,(k35_mkM w base ok x.f0),rfl⟩
def rd_T38 (xs:List S38) (i:Int):S38:=xs.getD i.toNat z38
theorem at_T38 {w:World}{A:Option Addr}{n:Nat}{xs:List S38} (h:Kd.C k38 w A n xs) (i:Int) (h0:0≤i) (h1:i<n): ∃ ad,A=some ad∧w.cell? (ad.add (i.toNat * 13))=some (.int .u8 (rd_T38 xs i).f0.f0)∧w.cell? ⟨(ad.add (i.toNat * 13)).block,(ad.add (i.toNat * 13)).off+1,none⟩=some (.int .i64 (rd_T38 xs i).f0.f1)∧w.cell? ⟨(ad.add (i.toNat * 13)).block,(ad.add (i.toNat * 13)).off+2,none⟩=some (.int .u64 (rd_T38 xs i).f0.f2)∧w.cell? ⟨(ad.add (i.toNat * 13)).block,(ad.add (i.toNat * 13)).off+3,none⟩=some (.int .i64 (rd_T38 xs i).f0.f3)∧w.cell? ⟨(ad.add (i.toNat * 13)).block,(ad.add (i.toNat * 13)).off+4,none⟩=some (.bool (rd_T38 xs i).f0.f4.f0)∧w.cell? ⟨(ad.add (i.toNat * 13)).block,(ad.add (i.toNat * 13)).off+5,none⟩=some (.int .u64 (rd_T38 xs i).f0.f4.f1.f0)∧w.cell? ⟨(ad.add (i.toNat * 13)).block,(ad.add (i.toNat * 13)).off+6,none⟩=some (.int .u64 (rd_T38 xs i).f0.f4.f1.f1)∧w.cell? ⟨(ad.add (i.toNat * 13)).block,(ad.add (i.toNat * 13)).off+7,none⟩=some (.int .i64 (rd_T38 xs i).f0.f4.f2)∧w.cell? ⟨(ad.add (i.toNat * 13)).block,(ad.add (i.toNat * 13)).off+8,none⟩=some (.int .u8 (rd_T38 xs i).f0.f5.f0)∧w.cell? ⟨(ad.add (i.toNat * 13)).block,(ad.add (i.toNat * 13)).off+9,none⟩=some (.int .i64 (rd_T38 xs i).f0.f5.f1)∧w.cell? ⟨(ad.add (i.toNat * 13)).block,(ad.add (i.toNat * 13)).off+10,none⟩=some (.int .i64 (rd_T38 xs i).f0.f6)∧w.cell? ⟨(ad.add (i.toNat * 13)).block,(ad.add (i.toNat * 13)).off+11,none⟩=some (.int .i64 (rd_T38 xs i).f0.f7)∧w.cell? ⟨(ad.add (i.toNat * 13)).block,(ad.add (i.toNat * 13)).off+12,none⟩=some (.int .i64 (rd_T38 xs i).f1):=by
  obtain⟨ad,c,e,_,hK,aa⟩:=Kd.C_get h z38 i h0 h1;have hc: ∀ j u,c[j]? =some u→w.cell? (ad.add (i.toNat * 13+j))=some u:=aa;obtain rfl:=k38_open hK;exact⟨ad,e,hc 0 _ rfl,by rw [← add_field _ _ 1 (by omega)];exact hc 1 _ rfl,by rw [← add_field _ _ 2 (by omega)];exact hc 2 _ rfl,by rw [← add_field _ _ 3 (by omega)];exact hc 3 _ rfl,by rw [← add_field _ _ 4 (by omega)];exact hc 4 _ rfl,by rw [← add_field _ _ 5 (by omega)];exact hc 5 _ rfl,by rw [← add_field _ _ 6 (by omega)];exact hc 6 _ rfl,by rw [← add_field _ _ 7 (by omega)];exact hc 7 _ rfl,by rw [← add_field _ _ 8 (by omega)];exact hc 8 _ rfl,by rw [← add_field _ _ 9 (by omega)];exact hc 9 _ rfl,by rw [← add_field _ _ 10 (by omega)];exact hc 10 _ rfl,by rw [← add_field _ _ 11 (by omega)];exact hc 11 _ rfl,by rw [← add_field _ _ 12 (by omega)];exact hc 12 _ rfl⟩
end Go.Proofs.Ythkdfojmhloofaa.Q
end
section
namespace Go.Proofs.Ythkdfojmhloofaa.Q
open Go.RowKit Go.Proofs.YthkdfojmhloofaaW.PrintWords Go.Proofs.YthkdfojmhloofaaW.PrintLast Go.Proofs.YthkdfojmhloofaaW.PrintMore
attribute [local go_sem] max2_int min2_int max_two min_two max_three min_three max_four min_four   -- for this text's walks alone
set_option linter.unusedVariables false
set_option linter.unusedSimpArgs false
theorem eqA28 (d:Nat) (w:World) (x0 y0:Int) (x1 y1:Int):
    (Op.equalIn (d+2) 28 (.agg #[.int .u64 x0,.int .u64 x1]) (.agg #[.int .u64 y0,.int .u64 y1])).run Try.prog w= .ok (x0==y0&&(x1==y1)) w:=by
  refine eqA_of Try.underlying28 (by kernel_rfl) ?_;refine eqf_cons (by rfl) (by go_simp;rfl) (by go_simp;rfl) (by go_simp) ?_;exact eqf_last (by rfl) (by go_simp;rfl) (by go_simp;rfl) (by go_simp)
theorem eqA30 (d:Nat) (w:World) (x0 y0:Bool) (x1 y1:Int) (x2 y2:Int) (x3 y3:Int):
    (Op.equalIn (d+3) 30 (.agg #[.bool x0,.int .u64 x1,.int .u64 x2,.int .i64 x3]) (.agg #[.bool y0,.int .u64 y1,.int .u64 y2,.int .i64 y3])).run Try.prog w= .ok (x0==y0&&((x1==y1&&(x2==y2))&&(x3==y3))) w:=by
  refine eqA_of Try.underlying30 (by kernel_rfl) ?_;refine eqf_cons (by rfl) (by go_simp;rfl) (by go_simp;rfl) (by go_simp) ?_;refine eqf_cons (by rfl) (by go_simp) (by go_simp) (eqA28 (d+0) w _ _ _ _) ?_;exact eqf_last (by rfl) (by go_simp;rfl) (by go_simp;rfl) (by go_simp)
theorem eqA33 (d:Nat) (w:World) (x0 y0:Int) (x1 y1:Int):
    (Op.equalIn (d+2) 33 (.agg #[.int .u8 x0,.int .i64 x1]) (.agg #[.int .u8 y0,.int .i64 y1])).run Try.prog w= .ok (x0==y0&&(x1==y1)) w:=by
  refine eqA_of Try.underlying33 (by kernel_rfl) ?_;refine eqf_cons (by rfl) (by go_simp;rfl) (by go_simp;rfl) (by go_simp) ?_;exact eqf_last (by rfl) (by go_simp;rfl) (by go_simp;rfl) (by go_simp)
theorem eqA35 (d:Nat) (w:World) (x0 y0:Int) (x1 y1:Int) (x2 y2:Int) (x3 y3:Int) (x4 y4:Bool) (x5 y5:Int) (x6 y6:Int) (x7 y7:Int) (x8 y8:Int) (x9 y9:Int) (A B:Int) (C D:Int):
    (Op.equalIn (d+4) 35 (.agg #[.int .u8 x0,.int .i64 x1,.int .u64 x2,.int .i64 x3,.bool x4,.int .u64 x5,.int .u64 x6,.int .i64 x7,.int .u8 x8,.int .i64 x9,.int .i64 A,.int .i64 C]) (.agg #[.int .u8 y0,.int .i64 y1,.int .u64 y2,.int .i64 y3,.bool y4,.int .u64 y5,.int .u64 y6,.int .i64 y7,.int .u8 y8,.int .i64 y9,.int .i64 B,.int .i64 D])).run Try.prog w= .ok (x0==y0&&(x1==y1&&(x2==y2&&(x3==y3&&((x4==y4&&((x5==y5&&(x6==y6))&&(x7==y7)))&&((x8==y8&&(x9==y9))&&(A==B&&(C==D)))))))) w:=by
  refine eqA_of Try.underlying35 (by kernel_rfl) ?_;refine eqf_cons (by rfl) (by go_simp;rfl) (by go_simp;rfl) (by go_simp) ?_;refine eqf_cons (by rfl) (by go_simp;rfl) (by go_simp;rfl) (by go_simp) ?_;refine eqf_cons (by rfl) (by go_simp;rfl) (by go_simp;rfl) (by go_simp) ?_;refine eqf_cons (by rfl) (by go_simp;rfl) (by go_simp;rfl) (by go_simp) ?_;refine eqf_cons (by rfl) (by go_simp) (by go_simp) (eqA30 (d+0) w _ _ _ _ _ _ _ _) ?_;refine eqf_cons (by rfl) (by go_simp) (by go_simp) (eqA33 (d+1) w _ _ _ _) ?_;refine eqf_cons (by rfl) (by go_simp;rfl) (by go_simp;rfl) (by go_simp) ?_;exact eqf_last (by rfl) (by go_simp;rfl) (by go_simp;rfl) (by go_simp)
end Go.Proofs.Ythkdfojmhloofaa.Q
end
section
namespace Go.Proofs.Ythkdfojmhloofaa.Q
open Go.RowKit Go.Proofs.YthkdfojmhloofaaW.PrintWords Go.Proofs.YthkdfojmhloofaaW.PrintLast Go.Proofs.YthkdfojmhloofaaW.PrintMore
attribute [local go_sem] max2_int min2_int max_two min_two max_three min_three max_four min_four   -- for this text's walks alone
set_option linter.unusedVariables false
set_option linter.unusedSimpArgs false
theorem eqA38 (d:Nat) (w:World) (x0 y0:Int) (x1 y1:Int) (x2 y2:Int) (x3 y3:Int) (x4 y4:Bool) (x5 y5:Int) (x6 y6:Int) (x7 y7:Int) (x8 y8:Int) (x9 y9:Int) (A B:Int) (C D:Int) (E F:Int):
    (Op.equalIn (d+5) 38 (.agg #[.int .u8 x0,.int .i64 x1,.int .u64 x2,.int .i64 x3,.bool x4,.int .u64 x5,.int .u64 x6,.int .i64 x7,.int .u8 x8,.int .i64 x9,.int .i64 A,.int .i64 C,.int .i64 E]) (.agg #[.int .u8 y0,.int .i64 y1,.int .u64 y2,.int .i64 y3,.bool y4,.int .u64 y5,.int .u64 y6,.int .i64 y7,.int .u8 y8,.int .i64 y9,.int .i64 B,.int .i64 D,.int .i64 F])).run Try.prog w= .ok ((x0==y0&&(x1==y1&&(x2==y2&&(x3==y3&&((x4==y4&&((x5==y5&&(x6==y6))&&(x7==y7)))&&((x8==y8&&(x9==y9))&&(A==B&&(C==D))))))))&&(E==F)) w:=by
  refine eqA_of Try.underlying38 (by kernel_rfl) ?_;refine eqf_cons (by rfl) (by go_simp) (by go_simp) (eqA35 (d+0) w _ _ _ _ _ _ _ _ _ _ _ _ _ _ _ _ _ _ _ _ _ _ _ _) ?_;exact eqf_last (by rfl) (by go_simp;rfl) (by go_simp;rfl) (by go_simp)
end Go.Proofs.Ythkdfojmhloofaa.Q
end
section
namespace Go.Proofs.Ythkdfojmhloofaa.Q
open Go.RowKit Go.Proofs.YthkdfojmhloofaaW.PrintWords Go.Proofs.YthkdfojmhloofaaW.PrintLast Go.Proofs.YthkdfojmhloofaaW.PrintMore
attribute [local go_sem] max2_int min2_int max_two min_two max_three min_three max_four min_four   -- for this text's walks alone
set_option linter.unusedVariables false
set_option linter.unusedSimpArgs false
def addr_Wide.f (a0:Bool):Option (Int):=if a0=true then (some 128) else (some 32)
set_option maxHeartbeats 8000000 in
set_option maxRecDepth 100000 in
theorem addr_Wide.calls (a0:Bool) (r:Int) (w:World) (h:addr_Wide.f a0=some r):
  Calls Try.prog 58 #[.bool a0] w fun e w'=>e= .returned (.int .i64 r)∧Drawn0 w w':=by
 have H:(if a0=true then (some 128) else (some 32))=some r:=h;clear h;by_cases c2:a0=true
 ·subst c2;have H1:(some 128)=some r:=by rw [if_pos rfl]at H;exact H
  clear H;have H:=H1;clear H1;obtain rfl:=Option.some.inj H;go_enter Try.func58,Try.ntmps58;go_wp2;go_ret;exact⟨by first|rfl|(simp;done)|(simp [*];done),by repeat (first|exact Drawn0.refl _|apply Drawn0.step)⟩
 ·replace c2:=Bool.eq_false_iff.mpr c2;subst c2;have H1:(some 32)=some r:=by rw [if_neg (show ¬ (false=true) by decide)]at H;exact H
  clear H;have H:=H1;clear H1;obtain rfl:=Option.some.inj H;go_enter Try.func58,Try.ntmps58;go_wp2;go_ret;exact⟨by first|rfl|(simp;done)|(simp [*];done),by repeat (first|exact Drawn0.refl _|apply Drawn0.step)⟩
def addr_Right.f (a0:Bool) (aa:Int) (ab:Int):Option (Bool):=if a0=true then (some true) else (if aa=0 then (some ((ab / 4294967296)==0)) else (some false))
set_option maxHeartbeats 8000000 in
set_option maxRecDepth 100000 in
theorem addr_Right.calls (a0:Bool) (A:Int) (C:Int) (r:Bool) (w:World) (h:addr_Right.f a0 A C=some r):
  Calls Try.prog 72 #[.bool a0,.agg #[.int .u64 A,.int .u64 C]] w fun e w'=>e= .returned (.bool r)∧Below w.heap.size w w':=by
 have ac:=Try.underlying28;have HB:=Ax (Below.refl w.heap.size w);have H:(if a0=true then (some true) else (if A=0 then (some ((C / 4294967296)==0)) else (some false)))=some r:=h;clear h;by_cases c3:a0=true
 ·subst c3;have H1:(some true)=some r:=by rw [if_pos rfl]at H;exact H
  clear H;have H:=H1;clear H1;obtain rfl:=Option.some.inj H;go_enter Try.func72,Try.ntmps72;go_wp2_with (first|((with_reducible refine gate_dst (N:=3) rfl ?_);refine bX (N:=3) (cs:= #[.int .u64 A,.int .u64 C]) (t:=28) ?_;intro F hg w4 B hb;have E:=Ax (B);have G:=Gw0 HB hg;have D:=Gw0 HB hg;replace HB:=Bs0 HB hb;clear hb B hg));go_ret;exact⟨eS,bw1 HB.out D.out⟩
 ·replace c3:=Bool.eq_false_iff.mpr c3;subst c3;have H1:(if A=0 then (some ((C / 4294967296)==0)) else (some false))=some r:=by rw [if_neg (show ¬ (false=true) by decide)]at H;exact H
  clear H;have H:=H1;clear H1;by_cases c5:A=0;·rw [if_pos c5]at H;have aa:(A==0)=true:=beq_iff_eq.mpr c5;have ab:(A !=0)=false:=bne_eq_false_iff_eq.mpr c5;clear c5;obtain rfl:=Option.some.inj H;go_enter Try.func72,Try.ntmps72;go_wp2_with (first|((with_reducible refine gate_dst (N:=3) rfl ?_);refine bX (N:=3) (cs:= #[.int .u64 A,.int .u64 C]) (t:=28) ?_;intro F hg w6 B hb;have E:=Ax (B);have G:=Gw0 HB hg;have D:=Gw0 HB hg;replace HB:=Bs0 HB hb;clear hb B hg;obtain⟨ae,af,ag,ah⟩:=cl2 E));go_ret;exact⟨eS,bw1 HB.out D.out⟩
  ·rw [if_neg c5]at H;have aa:(A==0)=false:=beq_eq_false_iff_ne.mpr c5;have ab:(A !=0)=true:=bne_iff_ne.mpr c5;obtain rfl:=Option.some.inj H;go_enter Try.func72,Try.ntmps72;go_wp2_with (first|((with_reducible refine gate_dst (N:=3) rfl ?_);refine bX (N:=3) (cs:= #[.int .u64 A,.int .u64 C]) (t:=28) ?_;intro F hg w8 B hb;have E:=Ax (B);have G:=Gw0 HB hg;have D:=Gw0 HB hg;replace HB:=Bs0 HB hb;clear hb B hg;obtain⟨aj,al,am,ap⟩:=cl2 E));go_ret;exact⟨eS,bw1 HB.out D.out⟩
def addr_below.f (a0:Int):Option (Int × Int):=if a0 ≥ 128 then (some (18446744073709551615,18446744073709551615)) else (if a0 ≥ 64 then (if 0≤(wrap64 (a0 - 64)) then (some (IntKind.u64.wrap ((shl .u64 1 (wrap64 (a0 - 64))) - 1),18446744073709551615)) else (none)) else (if 0≤a0 then (some (0,IntKind.u64.wrap ((shl .u64 1 a0) - 1))) else (none)))
set_option maxHeartbeats 8000000 in
set_option maxRecDepth 100000 in
theorem addr_below.calls (a0:Int) (r1:Int) (r2:Int) (w:World) (h:addr_below.f a0=some (r1,r2)):
  Calls Try.prog 78 #[.int .i64 a0] w fun e w'=>e= .returned (.agg #[.int .u64 r1,.int .u64 r2])∧Below w.heap.size w w':=by
 have ah:=Try.underlying28;have HB:=Ax (Below.refl w.heap.size w);have H:(if a0 ≥ 128 then (some (18446744073709551615,18446744073709551615)) else (if a0 ≥ 64 then (if 0≤(wrap64 (a0 - 64)) then (some (IntKind.u64.wrap ((shl .u64 1 (wrap64 (a0 - 64))) - 1),18446744073709551615)) else (none)) else (if 0≤a0 then (some (0,IntKind.u64.wrap ((shl .u64 1 a0) - 1))) else (none))))=some (r1,r2):=h;clear h;by_cases c2:a0 ≥ 128;·rw [if_pos c2]at H;have aa:decide (128≤a0)=true:=dT c2;clear c2;simp only[Option.some.injEq,Prod.mk.injEq]at H;obtain⟨rfl,rfl⟩:=H;go_enter Try.func78,Try.ntmps78;go_wp2_with (first|((with_reducible refine gate_dst (N:=2) rfl ?_);refine bX (N:=2) (cs:= #[.int .u64 0,.int .u64 0]) (t:=28) ?_;intro F hg w3 B hb;have C:=Ax (B);have T:=Gw0 HB hg;have G:=Gw0 HB hg;replace HB:=Bs0 HB hb;clear hb B hg;obtain⟨aj,al,am,ap⟩:=cl2 C));refine bodyPost_ret (results_cell_row rfl _ _ F 28 #[.int .u64 18446744073709551615,.int .u64 18446744073709551615] (0,0) _ rfl (gB C.out) Try.underlying28 rfl (by kernel_rfl)) rfl ?_;exact⟨eS,bw1 HB.out G.out⟩
 ·rw [if_neg c2]at H;have aa:decide (128≤a0)=false:=dF c2;clear c2;by_cases c5:a0 ≥ 64
  ·rw [if_pos c5]at H;have ab:decide (64≤a0)=true:=dT c5;clear c5;obtain⟨A,O⟩: ∃ j_:Int,(wrap64 (a0 - 64))=j_:=⟨_,rfl⟩;replace H:(if 0≤(A) then (some (IntKind.u64.wrap ((shl .u64 1 (A)) - 1),18446744073709551615)) else (none))=some (r1,r2):=by first|(rw [O]at H;exact H)|(simp only[O]at H ⊢;exact H)
   have aq:(IntKind.i64.wrap (a0 - 64))=A:=(i64_w _).trans O;by_cases c7:0≤(A)
   ·rw [if_pos c7]at H;have ar:=eq_true c7;have au:decide (0≤(A))=true:=dT c7;clear c7;obtain⟨D,I⟩: ∃ j_:Int,(shl .u64 1 (A))=j_:=⟨_,rfl⟩;replace H:(some (IntKind.u64.wrap ((D) - 1),18446744073709551615))=some (r1,r2):=by first|(rw [I]at H;exact H)|(simp only[I]at H ⊢;exact H)
    have ac:(IntKind.u64.wrap (1 * 2 ^ min (A).toNat 64))=D:=I;have ae:(A)≤64→(IntKind.u64.wrap (1 * 2 ^ (A).toNat))=D:=shl_small I;have av:(IntKind.u64.wrap (2 ^ min (A).toNat 64))=D:=by have h_:=ac;rw [Int.one_mul]at h_;exact h_
    have aw:(A)≤64→(IntKind.u64.wrap (2 ^ (A).toNat))=D:=fun R=>by have h_:=ae R;rw [Int.one_mul]at h_;exact h_
    simp only[Option.some.injEq,Prod.mk.injEq]at H;obtain⟨rfl,rfl⟩:=H;go_enter Try.func78,Try.ntmps78;go_wp2_with (first|((with_reducible refine gate_dst (N:=2) rfl ?_);refine bX (N:=2) (cs:= #[.int .u64 0,.int .u64 0]) (t:=28) ?_;intro F hg w9 B hb;have C:=Ax (B);have T:=Gw0 HB hg;have G:=Gw0 HB hg;replace HB:=Bs0 HB hb;clear hb B hg;obtain⟨ax,ay,az,aA⟩:=cl2 C));refine bodyPost_ret (results_cell_row rfl _ _ F 28 #[.int .u64 (IntKind.u64.wrap ((D) - 1)),.int .u64 18446744073709551615] (0,0) _ rfl (gB C.out) Try.underlying28 rfl (by kernel_rfl)) rfl ?_;exact⟨by first|rfl|(simp [errW_none,errW_some] <;> rfl)|(simp only[← O, ← I];first|rfl|(simp [errW_none,errW_some] <;> rfl))|(simp [*,errW_none,errW_some] <;> rfl),bw1 HB.out G.out⟩
   ·rw [if_neg c7]at H;exact absurd H (by simp)
  ·rw [if_neg c5]at H;have ab:decide (64≤a0)=false:=dF c5;clear c5;by_cases L:0≤a0
   ·rw [if_pos L]at H;have aC:=eq_true L;have aD:decide (0≤a0)=true:=dT L;clear L;obtain⟨E,M⟩: ∃ j_:Int,(shl .u64 1 a0)=j_:=⟨_,rfl⟩;replace H:(some (0,IntKind.u64.wrap ((E) - 1)))=some (r1,r2):=by first|(rw [M]at H;exact H)|(simp only[M]at H ⊢;exact H)
    have af:(IntKind.u64.wrap (1 * 2 ^ min a0.toNat 64))=E:=M;have ag:a0≤64→(IntKind.u64.wrap (1 * 2 ^ a0.toNat))=E:=shl_small M;have aE:(IntKind.u64.wrap (2 ^ min a0.toNat 64))=E:=by have h_:=af;rw [Int.one_mul]at h_;exact h_
    have aG:a0≤64→(IntKind.u64.wrap (2 ^ a0.toNat))=E:=fun R=>by have h_:=ag R;rw [Int.one_mul]at h_;exact h_
    simp only[Option.some.injEq,Prod.mk.injEq]at H;obtain⟨rfl,rfl⟩:=H;go_enter Try.func78,Try.ntmps78;go_wp2_with (first|((with_reducible refine gate_dst (N:=2) rfl ?_);refine bX (N:=2) (cs:= #[.int .u64 0,.int .u64 0]) (t:=28) ?_;intro F hg aH B hb;have C:=Ax (B);have T:=Gw0 HB hg;have G:=Gw0 HB hg;replace HB:=Bs0 HB hb;clear hb B hg;obtain⟨aI,aJ,aK,aM⟩:=cl2 C));refine bodyPost_ret (results_cell_row rfl _ _ F 28 #[.int .u64 0,.int .u64 (IntKind.u64.wrap ((E) - 1))] (0,0) _ rfl (gB C.out) Try.underlying28 rfl (by kernel_rfl)) rfl ?_;exact⟨by first|rfl|(simp [errW_none,errW_some] <;> rfl)|(simp only[← M];first|rfl|(simp [errW_none,errW_some] <;> rfl))|(simp [*,errW_none,errW_some] <;> rfl),bw1 HB.out G.out⟩
   ·rw [if_neg L]at H;exact absurd H (by simp)
def addr_host.f (aa:Bool) (ae:Int) (af:Int) (ab:Int):Option (Int × Int):=(addr_Wide.f aa).bind fun ac=>((addr_below.f (wrap64 (ac - ab))).bind fun A=>(some (A.1,A.2)))
def addr_host.T1:Bool × List (List Nat × List Nat):=(true, [([], []),([0], [0]),([1], [1]),([], []),([3], [3]),([2,4], [2,4]),([5,2], [5]),([6,6,0,1,2,3,4,5,6], [6])])
def addr_host.B1:List Nat:= [0,1,3,0,8,31,63,127]
theorem addr_host.tab1:rtab .any (opsOf Try.f73 1)=addr_host.T1:=by kernel_rfl
theorem addr_host.bits1:waitsOk addr_host.T1.2 addr_host.B1=true:=by kernel_rfl
set_option maxHeartbeats 8000000 in
set_option maxRecDepth 100000 in
theorem addr_host.calls (F:Bool) (O:Int) (R:Int) (G:Int) (r1:Int) (r2:Int) (w:World) (h:addr_host.f F O R G=some (r1,r2)):
  Calls Try.prog 73 #[.agg #[.bool F,.int .u64 O,.int .u64 R,.int .i64 G]] w fun e w'=>e= .returned (.agg #[.int .u64 r1,.int .u64 r2])∧Below w.heap.size w w':=by
 have ah:=Try.underlying30;have aj:=Try.underlying28;have HB:=Ax (Below.refl w.heap.size w);have H:((addr_Wide.f F).bind fun I=>((addr_below.f (wrap64 (I - G))).bind fun V=>(some (V.1,V.2))))=some (r1,r2):=h;clear h;replace H:=bI H;obtain⟨I,X,H⟩:=H;(try dsimp only at H);have A2:=Ax X;clear X;replace H:=bI H;obtain⟨⟨aa,ab⟩,ac,H⟩:=H;dsimp only at H;have A3:=Ax ac;clear ac;simp only[Option.some.injEq,Prod.mk.injEq]at H;obtain⟨rfl,rfl⟩:=H;go_enter Try.func73,Try.ntmps73;try go_wp2_with (first|((with_reducible refine gate_dst (N:=1) rfl ?_);refine bX (N:=1) (cs:= #[.bool F,.int .u64 O,.int .u64 R,.int .i64 G]) (t:=30) ?_;intro T hg w4 L hb;have A:=Ax (L);have al:=Gw0 HB hg;have M:=Gw0 HB hg;replace HB:=Bs0 HB hb;clear hb L hg)|((with_reducible refine gate_dst (N:=2) rfl ?_);refine bX (N:=2) (cs:= #[.int .u64 0,.int .u64 0]) (t:=28) ?_;intro U hg w5 L hb;have B:=Ax (L);have am:=Gw1 HB hg M.out;have ae:=Gw1 HB hg M.out;replace HB:=Bs1 HB hb M.out;have C:=Nl0 A hg;have af:=Nr0 A hg;replace A:=Bx0 A hb;clear hb L hg))
 replace A:=Ax (blk_drew A.out);replace B:=Ax (blk_drew B.out);replace HB:=Ax (below_drew1 HB.out);refine start_ (n:=8) (S:=fun w'=>w'.cell? ⟨T,0,none⟩=some (.bool F)∧w'.cell? ⟨T,1,none⟩=some (.int .u64 O)∧w'.cell? ⟨T,2,none⟩=some (.int .u64 R)∧w'.cell? ⟨T,3,none⟩=some (.int .i64 G)) (ds:= []) #[Y,Y,Y,Y,Y,Y,Y,Y] (by kernel_rfl) rfl rfl (bqc4 A.out) (fun D=>?_);refine with_tabW addr_host.tab1 addr_host.bits1 (fun E ag=>?_);generalize w5.drew=w6 at A B HB D ⊢;refine pz 0 3 #[Z,Y,Y,Y,Y,Y,Y,Y] E.out ?_
 refine pz 3 6 #[Z,Y,Y,Z,Y,Y,Y,Y] E.out ?_
 refine take_ (i:=1) (N:=some 4) (v:=?_) (a':=?_) #[Z,Z,Y,Z,Y,Y,Y,Y] rfl rfl (take_ofW E.out ag.out (by kernel_rfl)) (fun _ _ _ h=>h) (Or.inl ⟨by rfl,?_⟩) D ?_ ?_;rotate_left
 ·rintro w' ⟨s0,s1,s2,s3⟩
  go_simp;with_reducible rfl
 rotate_left;·simp only[sP];rfl
 refine take_ (i:=4) (N:=some 7) (v:=?_) (a':=?_) #[Z,Z,Y,Z,Z,Y,Y,Y] rfl rfl (take_ofW E.out ag.out (by kernel_rfl)) (fun _ _ _ h=>h) (Or.inl ⟨by rfl,?_⟩) D ?_ ?_;rotate_left
 ·rintro w' ⟨s0,s1,s2,s3⟩
  go_simp;with_reducible rfl
 rotate_left;·simp only[sP];rfl
 refine one_ (i:=2) (N:=some 5) #[Z,Z,Z,Z,Z,Y,Y,Y] rfl rfl (one_of E.out (by kernel_rfl)) (by decide) (fun K hK=>?_);refine goes_ Try.func58 (by kernel_rfl) rfl #[.bool F] (by rfl) rfl rfl gS ?_;with_reducible refine (addr_Wide.calls F I _ A2.out).mono ?_
 rintro e w' ⟨rfl,⟨nd,rfl⟩⟩
 refine⟨_,rfl,?_⟩;refine hK.out _ _ (bqc4 A.out) (fun D=>?_);clear hK K;refine norm_ (a':=?_) ?_ ?_;rotate_left
 ·show Act.put _ (some 5) _=_
  simp only[sP];rfl
 refine pz 5 8 #[Z,Z,Z,Z,Z,Z,Y,Y] E.out ?_
 refine one_ (i:=6) (N:=some 9) #[Z,Z,Z,Z,Z,Z,Z,Y] rfl rfl (one_of E.out (by kernel_rfl)) (by decide) (fun K hK=>?_);refine goes_ Try.func78 (by kernel_rfl) rfl #[.int .i64 (wrap64 (I - G))] (by rfl) rfl rfl gS ?_;with_reducible refine (addr_below.calls (wrap64 (I - G)) aa ab _ A3.out).mono ?_
 rintro e w7 ⟨rfl,hb⟩
 refine⟨_,rfl,?_⟩;replace A:=Bx0 A hb;replace B:=Bx0 B hb;replace HB:=Bs2 HB hb M.out ae.out
 (try clear hb)
 refine hK.out _ _ (bqc4 A.out) (fun D=>?_);clear hK K;refine norm_ (a':=?_) ?_ ?_;rotate_left
 ·show Act.put _ (some 9) _=_
  simp only[sP];rfl
 refine one_ (i:=7) (N:=none) #[Z,Z,Z,Z,Z,Z,Z,Z] rfl rfl (one_of E.out (by kernel_rfl)) (by decide) (fun K hK=>?_);have ap:w7.cell? ⟨U,0,none⟩=some (.int .u64 0):=(blk_cell B.out 0).trans rfl;have aq:=blk_frozen B.out 0;have ar:=C.out;have au:=af.out;have av:w7.cell? ⟨U,1,none⟩=some (.int .u64 0):=(blk_cell B.out 1).trans rfl;have aw:=blk_frozen B.out 1;have ax:=C.out;have ay:=af.out;refine skip_ (w1:=?_) (by rfl) rfl ?_ ?_;rotate_left;·go_simp;rfl
 refine hK.out _ _ ⟨(cqf C.out ((cqf C.out (D.1)))),(cqf C.out ((cqf C.out (D.2.1)))),(cqf C.out ((cqf C.out (D.2.2.1)))),(cqf C.out ((cqf C.out (D.2.2.2))))⟩ (fun D=>?_);clear hK K;refine done_ (done_of E.out (by kernel_rfl)) ?_;try go_wp2
 refine bodyPost_ret (results_cell_row rfl _ _ U 28 #[.int .u64 aa,.int .u64 ab] (0,0) _ rfl (gB B.out) Try.underlying28 rfl (by kernel_rfl)) rfl ?_;exact⟨eS,bw2 HB.out M.out ae.out⟩
def addr_Check.j0 : Nat → Bool → Bool → Int → Int → Int → Option (Int)
 | 0, _, _, _, _, _ => none
 | k + 1, x22, x109000, x109001, x109002, x109003 => if x22 = true then (some 2) else ((addr_host.f x109000 x109001 x109002 x109003).bind fun A => (if (Go.bits .or .u64 (Go.bits .and .u64 x109001 A.1) (Go.bits .and .u64 x109002 A.2)) = 0 then (some 0) else (some 2)))
def addr_Check.f (k:Nat) (A:Bool) (C:Int) (D:Int) (B:Int):Option (Int):=if B<0 then (addr_Check.j0 k true A C D B) else ((addr_Wide.f A).bind fun aa=>(if B > aa then (addr_Check.j0 k true A C D B) else ((addr_Right.f A C D).bind fun ab=>(addr_Check.j0 k (!ab) A C D B))))
theorem addr_Check.mono_l: ∀ k,(∀ y0 y1 y2 y3 y4,LeO (addr_Check.j0 k y0 y1 y2 y3 y4) (addr_Check.j0 (k+1) y0 y1 y2 y3 y4))
 |0=>fun _ _ _ _ _ r h=>by simp [addr_Check.j0]at h
 |k+1=>by
  have A:=addr_Check.mono_l k
  ·intro y0 y1 y2 y3 y4;unfold addr_Check.j0
   repeat' first
   |(with_reducible exact A _ _ _ _ _)
   |(with_reducible exact LeO.refl _)
   |(with_reducible exact LeO.none _)
   |(with_reducible refine LeO.ite ?_ ?_)
   |(with_reducible refine LeO.bind ?_ (fun _=>?_))
   |exact A _ _ _ _ _
   |exact LeO.none _
   |refine LeO.ite ?_ ?_
   |refine LeO.bind ?_ (fun _=>?_)
theorem addr_Check.mono: ∀ a0 a1 a2 a3 k,LeO (addr_Check.f k a0 a1 a2 a3) (addr_Check.f (k+1) a0 a1 a2 a3):=by
 intro a0 a1 a2 a3 k;have A:=addr_Check.mono_l k;unfold addr_Check.f
 repeat' first
   | (with_reducible exact A _ _ _ _ _)
   | (with_reducible exact LeO.refl _)
   | (with_reducible exact LeO.none _)
   | (with_reducible refine LeO.ite ?_ ?_)
   | (with_reducible refine LeO.bind ?_ (fun _ => ?_))
   | exact A _ _ _ _ _
   | exact LeO.none _
   | refine LeO.ite ?_ ?_
   | refine LeO.bind ?_ (fun _ => ?_)
def addr_Check.T1:Bool × List (List Nat × List Nat):=(true, [([], []),([0], [0]),([1], [1]),([2], [2]),([3], [3]),([4,3], [3,4]),([3], [3]),([6,3], [3,6]),([7,3,3], [3,7]),([5,8,3], [3,5,8]),([3,9], [3,9]),([10,8], [10]),([11], [11]),([12,11], [11,12]),([11], [11]),([14,11], [11,14]),([13,15,11,11], [11,13,15]),([16,11], [11,16]),([11,17], [11,17])])
def addr_Check.B1:List Nat:= [0,1,3,7,15,31,15,79,207,511,1023,2047,4095,8191,4095,20479,65535,131071,262143]
theorem addr_Check.tab1:rtab .any (opsOf Try.f59 1)=addr_Check.T1:=by kernel_rfl
theorem addr_Check.bits1:waitsOk addr_Check.T1.2 addr_Check.B1=true:=by kernel_rfl
set_option maxHeartbeats 8000000 in
set_option maxRecDepth 100000 in
theorem addr_Check.calls (k:Nat) (E:Bool) (C:Int) (D:Int) (F:Int) (r:Int) (w:World) (h:addr_Check.f k E C D F=some r):
  Calls Try.prog 59 #[.agg #[.bool E,.int .u64 C,.int .u64 D,.int .i64 F]] w fun e w'=>e= .returned (.int .i64 r)∧Below w.heap.size w w':=by
 have aA:=Try.underlying30;have aC:=Try.underlying28;have HB:=Ax (Below.refl w.heap.size w);have H:(if F<0 then (addr_Check.j0 k true E C D F) else ((addr_Wide.f E).bind fun R=>(if F > R then (addr_Check.j0 k true E C D F) else ((addr_Right.f E C D).bind fun aa=>(addr_Check.j0 k (!aa) E C D F)))))=some r:=h;clear h;have ae:=Ax H;clear H;go_enter Try.func59,Try.ntmps59;go_upto_region 1 with (first|((with_reducible refine gate_dst (N:=1) rfl ?_);refine bX (N:=1) (cs:= #[.bool E,.int .u64 C,.int .u64 D,.int .i64 F]) (t:=30) ?_;intro L hg w3 O hb;have B:=Ax (O);have aD:=Gw0 HB hg;have I:=Gw0 HB hg;replace HB:=Bs0 HB hb;clear hb O hg))
 (try simp only[Act.put,List.setIfInBounds_toArray,List.set_cons_zero,List.set_cons_succ])
 go_cut [22] (fun av wc=> ∃ (kq:Nat) (ab:Bool),av= .bool ab∧Aside0 (addr_Check.j0 kq ab E C D F=some r)∧Aside0 (kq≤k)∧Aside0 (wc.heap[L]? =some (.cells #[.bool E,.int .u64 C,.int .u64 D,.int .i64 F] 30 (0,0)))∧Aside0 (Below w.heap.size w wc))
 case first=>
  have H:=ae.out;clear ae;by_cases c4:F<0
  ·rw [if_pos c4]at H;have X:decide (F<0)=true:=dT c4;clear c4
   (first|rw [X]|(simp only[i64_w,i32_w];rw [X])|skip)
   have H':=Ax H;clear H;try go_wp2
   replace B:=Ax (blk_drew B.out);replace HB:=Ax (below_drew1 HB.out);refine start_ (n:=19) (S:=fun w'=>w'.cell? ⟨L,0,none⟩=some (.bool E)∧w'.cell? ⟨L,1,none⟩=some (.int .u64 C)∧w'.cell? ⟨L,2,none⟩=some (.int .u64 D)∧w'.cell? ⟨L,3,none⟩=some (.int .i64 F)) (ds:= []) #[Y,Y,Y,Y,Y,Y,Y,Y,Y,Y,Y,Y,Y,Y,Y,Y,Y,Y,Y] (by kernel_rfl) rfl rfl (bqc4 B.out) (fun G=>?_);refine with_tabW addr_Check.tab1 addr_Check.bits1 (fun A M=>?_);generalize w3.drew=w5 at B HB G ⊢;refine pz 0 4 #[Z,Y,Y,Y,Y,Y,Y,Y,Y,Y,Y,Y,Y,Y,Y,Y,Y,Y,Y] A.out ?_
   refine take_ (i:=1) (N:=some 5) (v:=?_) (a':=?_) #[Z,Z,Y,Y,Y,Y,Y,Y,Y,Y,Y,Y,Y,Y,Y,Y,Y,Y,Y] rfl rfl (take_ofW A.out M.out (by kernel_rfl)) (fun _ _ _ h=>h) (Or.inl ⟨by rfl,?_⟩) G ?_ ?_;rotate_left
   ·rintro w' ⟨s0,s1,s2,s3⟩
    go_simp;with_reducible rfl
   rotate_left;·simp only[sP];rfl
   refine pz 2 6 #[Z,Z,Z,Y,Y,Y,Y,Y,Y,Y,Y,Y,Y,Y,Y,Y,Y,Y,Y] A.out ?_
   refine pz 3 7 #[Z,Z,Z,Z,Y,Y,Y,Y,Y,Y,Y,Y,Y,Y,Y,Y,Y,Y,Y] A.out ?_
   refine pu 4 8 #[Z,Z,Z,Z,Z,Y,Y,Y,Y,Y,Y,Y,Y,Y,Y,Y,Y,Y,Y] A.out ?_
   refine pu 5 9 #[Z,Z,Z,Z,Z,Z,Y,Y,Y,Y,Y,Y,Y,Y,Y,Y,Y,Y,Y] A.out ?_
   refine pu 6 10 #[Z,Z,Z,Z,Z,Z,Z,Y,Y,Y,Y,Y,Y,Y,Y,Y,Y,Y,Y] A.out ?_
   refine pu 7 11 #[Z,Z,Z,Z,Z,Z,Z,Z,Y,Y,Y,Y,Y,Y,Y,Y,Y,Y,Y] A.out ?_
   refine pu 8 12 #[Z,Z,Z,Z,Z,Z,Z,Z,Z,Y,Y,Y,Y,Y,Y,Y,Y,Y,Y] A.out ?_
   refine pu 9 13 #[Z,Z,Z,Z,Z,Z,Z,Z,Z,Z,Y,Y,Y,Y,Y,Y,Y,Y,Y] A.out ?_
   refine pz 10 14 #[Z,Z,Z,Z,Z,Z,Z,Z,Z,Z,Z,Y,Y,Y,Y,Y,Y,Y,Y] A.out ?_
   refine pz 11 15 #[Z,Z,Z,Z,Z,Z,Z,Z,Z,Z,Z,Z,Y,Y,Y,Y,Y,Y,Y] A.out ?_
   refine pu 12 16 #[Z,Z,Z,Z,Z,Z,Z,Z,Z,Z,Z,Z,Z,Y,Y,Y,Y,Y,Y] A.out ?_
   refine pu 13 17 #[Z,Z,Z,Z,Z,Z,Z,Z,Z,Z,Z,Z,Z,Z,Y,Y,Y,Y,Y] A.out ?_
   refine pu 14 18 #[Z,Z,Z,Z,Z,Z,Z,Z,Z,Z,Z,Z,Z,Z,Z,Y,Y,Y,Y] A.out ?_
   refine pu 15 19 #[Z,Z,Z,Z,Z,Z,Z,Z,Z,Z,Z,Z,Z,Z,Z,Z,Y,Y,Y] A.out ?_
   refine pu 16 20 #[Z,Z,Z,Z,Z,Z,Z,Z,Z,Z,Z,Z,Z,Z,Z,Z,Z,Y,Y] A.out ?_
   refine pu 17 21 #[Z,Z,Z,Z,Z,Z,Z,Z,Z,Z,Z,Z,Z,Z,Z,Z,Z,Z,Y] A.out ?_
   refine pz 18 22 #[Z,Z,Z,Z,Z,Z,Z,Z,Z,Z,Z,Z,Z,Z,Z,Z,Z,Z,Z] A.out ?_
   refine done_ (done_of A.out (by kernel_rfl)) ?_;try go_wp2
   go_meet
   case rel=>exact⟨_,(true),rS,H',⟨by first|omega|exact Nat.le_refl _⟩,⟨bf0 B.out⟩,⟨bw1 HB.out I.out⟩⟩
  ·rw [if_neg c4]at H;have X:decide (F<0)=false:=dF c4;clear c4
   (first|rw [X]|(simp only[i64_w,i32_w];rw [X])|skip)
   replace H:=bI H;obtain⟨R,al,H⟩:=H;(try dsimp only at H);have A6:=Ax al;clear al;by_cases c7:F > R
   ·rw [if_pos c7]at H;have am:decide (R<F)=true:=dT c7;clear c7;have H':=Ax H;clear H;try go_wp2
    replace B:=Ax (blk_drew B.out);replace HB:=Ax (below_drew1 HB.out);refine start_ (n:=19) (S:=fun w'=>w'.cell? ⟨L,0,none⟩=some (.bool E)∧w'.cell? ⟨L,1,none⟩=some (.int .u64 C)∧w'.cell? ⟨L,2,none⟩=some (.int .u64 D)∧w'.cell? ⟨L,3,none⟩=some (.int .i64 F)) (ds:= []) #[Y,Y,Y,Y,Y,Y,Y,Y,Y,Y,Y,Y,Y,Y,Y,Y,Y,Y,Y] (by kernel_rfl) rfl rfl (bqc4 B.out) (fun G=>?_);refine with_tabW addr_Check.tab1 addr_Check.bits1 (fun A M=>?_);generalize w3.drew=w8 at B HB G ⊢;refine pz 0 4 #[Z,Y,Y,Y,Y,Y,Y,Y,Y,Y,Y,Y,Y,Y,Y,Y,Y,Y,Y] A.out ?_
    refine take_ (i:=1) (N:=some 5) (v:=?_) (a':=?_) #[Z,Z,Y,Y,Y,Y,Y,Y,Y,Y,Y,Y,Y,Y,Y,Y,Y,Y,Y] rfl rfl (take_ofW A.out M.out (by kernel_rfl)) (fun _ _ _ h=>h) (Or.inl ⟨by rfl,?_⟩) G ?_ ?_;rotate_left
    ·rintro w' ⟨s0,s1,s2,s3⟩
     go_simp;with_reducible rfl
    rotate_left;·simp only[sP];rfl
    refine pz 2 6 #[Z,Z,Z,Y,Y,Y,Y,Y,Y,Y,Y,Y,Y,Y,Y,Y,Y,Y,Y] A.out ?_
    refine pz 3 7 #[Z,Z,Z,Z,Y,Y,Y,Y,Y,Y,Y,Y,Y,Y,Y,Y,Y,Y,Y] A.out ?_
    refine pz 4 8 #[Z,Z,Z,Z,Z,Y,Y,Y,Y,Y,Y,Y,Y,Y,Y,Y,Y,Y,Y] A.out ?_
    refine pz 6 10 #[Z,Z,Z,Z,Z,Y,Z,Y,Y,Y,Y,Y,Y,Y,Y,Y,Y,Y,Y] A.out ?_
    refine take_ (i:=5) (N:=some 9) (v:=?_) (a':=?_) #[Z,Z,Z,Z,Z,Z,Z,Y,Y,Y,Y,Y,Y,Y,Y,Y,Y,Y,Y] rfl rfl (take_ofW A.out M.out (by kernel_rfl)) (fun _ _ _ h=>h) (Or.inl ⟨by rfl,?_⟩) G ?_ ?_;rotate_left
    ·rintro w' ⟨s0,s1,s2,s3⟩
     go_simp;with_reducible rfl
    rotate_left;·simp only[sP];rfl
    refine take_ (i:=7) (N:=some 11) (v:=?_) (a':=?_) #[Z,Z,Z,Z,Z,Z,Z,Z,Y,Y,Y,Y,Y,Y,Y,Y,Y,Y,Y] rfl rfl (take_ofW A.out M.out (by kernel_rfl)) (fun _ _ _ h=>h) (Or.inl ⟨by rfl,?_⟩) G ?_ ?_;rotate_left
    ·rintro w' ⟨s0,s1,s2,s3⟩
     go_simp;with_reducible rfl
    rotate_left;·simp only[sP];rfl
    refine one_ (i:=8) (N:=some 12) #[Z,Z,Z,Z,Z,Z,Z,Z,Z,Y,Y,Y,Y,Y,Y,Y,Y,Y,Y] rfl rfl (one_of A.out (by kernel_rfl)) (by decide) (fun K hK=>?_);refine goes_ Try.func58 (by kernel_rfl) rfl #[.bool E] (by rfl) rfl rfl gS ?_;with_reducible refine (addr_Wide.calls E R _ A6.out).mono ?_
    rintro e w' ⟨rfl,⟨nd,rfl⟩⟩
    refine⟨_,rfl,?_⟩;refine hK.out _ _ (bqc4 B.out) (fun G=>?_);clear hK K;refine norm_ (a':=?_) ?_ ?_;rotate_left
    ·show Act.put _ (some 12) _=_
     simp only[sP];rfl
    refine pz 9 13 #[Z,Z,Z,Z,Z,Z,Z,Z,Z,Z,Y,Y,Y,Y,Y,Y,Y,Y,Y] A.out ?_
    refine pz 10 14 #[Z,Z,Z,Z,Z,Z,Z,Z,Z,Z,Z,Y,Y,Y,Y,Y,Y,Y,Y] A.out ?_
    refine pz 11 15 #[Z,Z,Z,Z,Z,Z,Z,Z,Z,Z,Z,Z,Y,Y,Y,Y,Y,Y,Y] A.out ?_
    refine pu 12 16 #[Z,Z,Z,Z,Z,Z,Z,Z,Z,Z,Z,Z,Z,Y,Y,Y,Y,Y,Y] A.out ?_
    refine pu 13 17 #[Z,Z,Z,Z,Z,Z,Z,Z,Z,Z,Z,Z,Z,Z,Y,Y,Y,Y,Y] A.out ?_
    refine pu 14 18 #[Z,Z,Z,Z,Z,Z,Z,Z,Z,Z,Z,Z,Z,Z,Z,Y,Y,Y,Y] A.out ?_
    refine pu 15 19 #[Z,Z,Z,Z,Z,Z,Z,Z,Z,Z,Z,Z,Z,Z,Z,Z,Y,Y,Y] A.out ?_
    refine pu 16 20 #[Z,Z,Z,Z,Z,Z,Z,Z,Z,Z,Z,Z,Z,Z,Z,Z,Z,Y,Y] A.out ?_
    refine pu 17 21 #[Z,Z,Z,Z,Z,Z,Z,Z,Z,Z,Z,Z,Z,Z,Z,Z,Z,Z,Y] A.out ?_
    refine pz 18 22 #[Z,Z,Z,Z,Z,Z,Z,Z,Z,Z,Z,Z,Z,Z,Z,Z,Z,Z,Z] A.out ?_
    refine done_ (done_of A.out (by kernel_rfl)) ?_;try go_wp2
    go_meet
    case rel=>exact⟨_,(true),rS,H',⟨by first|omega|exact Nat.le_refl _⟩,⟨bf0 B.out⟩,⟨bw1 HB.out I.out⟩⟩
   ·rw [if_neg c7]at H;have am:decide (R<F)=false:=dF c7;clear c7;replace H:=bI H;obtain⟨aa,ap,H⟩:=H;(try dsimp only at H);have A9:=Ax ap;clear ap;have H':=Ax H;clear H;try go_wp2
    replace B:=Ax (blk_drew B.out);replace HB:=Ax (below_drew1 HB.out);refine start_ (n:=19) (S:=fun w'=>w'.cell? ⟨L,0,none⟩=some (.bool E)∧w'.cell? ⟨L,1,none⟩=some (.int .u64 C)∧w'.cell? ⟨L,2,none⟩=some (.int .u64 D)∧w'.cell? ⟨L,3,none⟩=some (.int .i64 F)) (ds:= []) #[Y,Y,Y,Y,Y,Y,Y,Y,Y,Y,Y,Y,Y,Y,Y,Y,Y,Y,Y] (by kernel_rfl) rfl rfl (bqc4 B.out) (fun G=>?_);refine with_tabW addr_Check.tab1 addr_Check.bits1 (fun A M=>?_);generalize w3.drew=w10 at B HB G ⊢;refine pz 0 4 #[Z,Y,Y,Y,Y,Y,Y,Y,Y,Y,Y,Y,Y,Y,Y,Y,Y,Y,Y] A.out ?_
    refine take_ (i:=1) (N:=some 5) (v:=?_) (a':=?_) #[Z,Z,Y,Y,Y,Y,Y,Y,Y,Y,Y,Y,Y,Y,Y,Y,Y,Y,Y] rfl rfl (take_ofW A.out M.out (by kernel_rfl)) (fun _ _ _ h=>h) (Or.inl ⟨by rfl,?_⟩) G ?_ ?_;rotate_left
    ·rintro w' ⟨s0,s1,s2,s3⟩
     go_simp;with_reducible rfl
    rotate_left;·simp only[sP];rfl
    refine pz 2 6 #[Z,Z,Z,Y,Y,Y,Y,Y,Y,Y,Y,Y,Y,Y,Y,Y,Y,Y,Y] A.out ?_
    refine pz 3 7 #[Z,Z,Z,Z,Y,Y,Y,Y,Y,Y,Y,Y,Y,Y,Y,Y,Y,Y,Y] A.out ?_
    refine pz 4 8 #[Z,Z,Z,Z,Z,Y,Y,Y,Y,Y,Y,Y,Y,Y,Y,Y,Y,Y,Y] A.out ?_
    refine pz 6 10 #[Z,Z,Z,Z,Z,Y,Z,Y,Y,Y,Y,Y,Y,Y,Y,Y,Y,Y,Y] A.out ?_
    refine take_ (i:=5) (N:=some 9) (v:=?_) (a':=?_) #[Z,Z,Z,Z,Z,Z,Z,Y,Y,Y,Y,Y,Y,Y,Y,Y,Y,Y,Y] rfl rfl (take_ofW A.out M.out (by kernel_rfl)) (fun _ _ _ h=>h) (Or.inl ⟨by rfl,?_⟩) G ?_ ?_;rotate_left
    ·rintro w' ⟨s0,s1,s2,s3⟩
     go_simp;with_reducible rfl
    rotate_left;·simp only[sP];rfl
    refine take_ (i:=7) (N:=some 11) (v:=?_) (a':=?_) #[Z,Z,Z,Z,Z,Z,Z,Z,Y,Y,Y,Y,Y,Y,Y,Y,Y,Y,Y] rfl rfl (take_ofW A.out M.out (by kernel_rfl)) (fun _ _ _ h=>h) (Or.inl ⟨by rfl,?_⟩) G ?_ ?_;rotate_left
    ·rintro w' ⟨s0,s1,s2,s3⟩
     go_simp;with_reducible rfl
    rotate_left;·simp only[sP];rfl
    refine one_ (i:=8) (N:=some 12) #[Z,Z,Z,Z,Z,Z,Z,Z,Z,Y,Y,Y,Y,Y,Y,Y,Y,Y,Y] rfl rfl (one_of A.out (by kernel_rfl)) (by decide) (fun K hK=>?_);refine goes_ Try.func58 (by kernel_rfl) rfl #[.bool E] (by rfl) rfl rfl gS ?_;with_reducible refine (addr_Wide.calls E R _ A6.out).mono ?_
    rintro e w' ⟨rfl,⟨nd,rfl⟩⟩
    refine⟨_,rfl,?_⟩;refine hK.out _ _ (bqc4 B.out) (fun G=>?_);clear hK K;refine norm_ (a':=?_) ?_ ?_;rotate_left
    ·show Act.put _ (some 12) _=_
     simp only[sP];rfl
    refine pz 9 13 #[Z,Z,Z,Z,Z,Z,Z,Z,Z,Z,Y,Y,Y,Y,Y,Y,Y,Y,Y] A.out ?_
    refine pz 10 14 #[Z,Z,Z,Z,Z,Z,Z,Z,Z,Z,Z,Y,Y,Y,Y,Y,Y,Y,Y] A.out ?_
    refine pz 11 15 #[Z,Z,Z,Z,Z,Z,Z,Z,Z,Z,Z,Z,Y,Y,Y,Y,Y,Y,Y] A.out ?_
    refine pz 12 16 #[Z,Z,Z,Z,Z,Z,Z,Z,Z,Z,Z,Z,Z,Y,Y,Y,Y,Y,Y] A.out ?_
    refine pz 14 18 #[Z,Z,Z,Z,Z,Z,Z,Z,Z,Z,Z,Z,Z,Y,Z,Y,Y,Y,Y] A.out ?_
    refine take_ (i:=13) (N:=some 17) (v:=?_) (a':=?_) #[Z,Z,Z,Z,Z,Z,Z,Z,Z,Z,Z,Z,Z,Z,Z,Y,Y,Y,Y] rfl rfl (take_ofW A.out M.out (by kernel_rfl)) (fun _ _ _ h=>h) (Or.inl ⟨by rfl,?_⟩) G ?_ ?_;rotate_left
    ·rintro w' ⟨s0,s1,s2,s3⟩
     go_simp;with_reducible rfl
    rotate_left;·simp only[sP];rfl
    refine take_ (i:=15) (N:=some 19) (v:=?_) (a':=?_) #[Z,Z,Z,Z,Z,Z,Z,Z,Z,Z,Z,Z,Z,Z,Z,Z,Y,Y,Y] rfl rfl (take_ofW A.out M.out (by kernel_rfl)) (fun _ _ _ h=>h) (Or.inl ⟨by rfl,?_⟩) G ?_ ?_;rotate_left
    ·rintro w' ⟨s0,s1,s2,s3⟩
     go_simp;with_reducible rfl
    rotate_left;·simp only[sP];rfl
    refine one_ (i:=16) (N:=some 20) #[Z,Z,Z,Z,Z,Z,Z,Z,Z,Z,Z,Z,Z,Z,Z,Z,Z,Y,Y] rfl rfl (one_of A.out (by kernel_rfl)) (by decide) (fun K hK=>?_);refine goes_ Try.func72 (by kernel_rfl) rfl #[.bool E,.agg #[.int .u64 C,.int .u64 D]] (by rfl) rfl rfl gS ?_;with_reducible refine (addr_Right.calls E C D aa _ A9.out).mono ?_
    rintro e aE ⟨rfl,hb⟩
    refine⟨_,rfl,?_⟩;replace B:=Bx0 B hb;replace HB:=Bs1 HB hb I.out
    (try clear hb)
    refine hK.out _ _ (bqc4 B.out) (fun G=>?_);clear hK K;refine norm_ (a':=?_) ?_ ?_;rotate_left
    ·show Act.put _ (some 20) _=_
     simp only[sP];rfl
    refine pz 17 21 #[Z,Z,Z,Z,Z,Z,Z,Z,Z,Z,Z,Z,Z,Z,Z,Z,Z,Z,Y] A.out ?_
    refine pz 18 22 #[Z,Z,Z,Z,Z,Z,Z,Z,Z,Z,Z,Z,Z,Z,Z,Z,Z,Z,Z] A.out ?_
    refine done_ (done_of A.out (by kernel_rfl)) ?_;try go_wp2
    go_meet
    case rel=>exact⟨_,(!aa),rS,H',⟨by first|omega|exact Nat.le_refl _⟩,⟨bf0 B.out⟩,⟨bw1 HB.out I.out⟩⟩
 case rest=>
  clear ae;try clear p2
  try clear c4
  try clear X
  try clear c5
  try clear c7
  try clear am
  obtain⟨kq,ab,rfl,HA,aG,B,HB⟩:=hcut;cases kq with
  |zero=>exact absurd HA.out (by simp [addr_Check.j0])
  |succ kj1=>
   have H:=HA.out;clear HA;simp only[addr_Check.j0]at H;by_cases ac:ab=true
   ·subst ac;have H1:(some 2)=some r:=by rw [if_pos rfl]at H;exact H
    clear H;have H:=H1;clear H1;obtain rfl:=Option.some.inj H;go_wp2;go_ret;exact⟨eS,bw1 HB.out I.out⟩
   ·replace ac:=Bool.eq_false_iff.mpr ac;subst ac;have H1:((addr_host.f E C D F).bind fun aq=>(if (Go.bits .or .u64 (Go.bits .and .u64 C aq.1) (Go.bits .and .u64 D aq.2))=0 then (some 0) else (some 2)))=some r:=by rw [if_neg (show ¬ (false=true) by decide)]at H;exact H
    clear H;have H:=H1;clear H1;replace H:=bI H;obtain⟨⟨T,U⟩,ar,H⟩:=H;dsimp only at H;have au:=Ax ar;clear ar;by_cases V:(Go.bits .or .u64 (Go.bits .and .u64 C T) (Go.bits .and .u64 D U))=0;·rw [if_pos V]at H;have aw:((Go.bits .or .u64 (Go.bits .and .u64 C T) (Go.bits .and .u64 D U))==0)=true:=beq_iff_eq.mpr V;have ax:((Go.bits .or .u64 (Go.bits .and .u64 C T) (Go.bits .and .u64 D U)) !=0)=false:=bne_eq_false_iff_eq.mpr V;clear V;obtain rfl:=Option.some.inj H;obtain⟨aH,aI,aJ,aK,aM,aN,aQ,aR⟩:=cl4 B;go_wp2_with (first|((with_reducible refine gate_callee (f:=73) rfl ?_);refine goesL_ (some 24) rfl rfl Try.func73 (by kernel_rfl) rfl #[.agg #[.bool E,.int .u64 C,.int .u64 D,.int .i64 F]] rfl gS ?_;(with_reducible refine (addr_host.calls E C D F T U _ au.out).mono ?_);rintro e aT ⟨rfl,hb⟩;refine⟨_,rfl,?_⟩;replace B:=Bx0 B hb;replace HB:=Bs1 HB hb I.out;(try clear hb))|((with_reducible refine gate_dst (N:=3) rfl ?_);refine bX (N:=3) (cs:= #[.int .u64 0,.int .u64 0]) (t:=28) ?_;intro ay hg aU O hb;have af:=Ax (O);have az:=Gw1 HB hg I.out;have ag:=Gw1 HB hg I.out;replace HB:=Bs1 HB hb I.out;have ah:=Nl0 B hg;have aj:=Nr0 B hg;replace B:=Bx0 B hb;clear hb O hg;have aV:=aj.out;have aW:=ah.out;obtain⟨aY,aZ,b2,b3⟩:=cl2 af;obtain⟨b4,b5,b6,b7,b8,b9,ba,bb⟩:=cl4 B));go_ret;exact⟨eS,bw2 HB.out I.out ag.out⟩
    ·rw [if_neg V]at H;have aw:((Go.bits .or .u64 (Go.bits .and .u64 C T) (Go.bits .and .u64 D U))==0)=false:=beq_eq_false_iff_ne.mpr V;have ax:((Go.bits .or .u64 (Go.bits .and .u64 C T) (Go.bits .and .u64 D U)) !=0)=true:=bne_iff_ne.mpr V;obtain rfl:=Option.some.inj H;obtain⟨bc,bd,bf,bg,bh,bi,bj,bk⟩:=cl4 B;go_wp2_with (first|((with_reducible refine gate_callee (f:=73) rfl ?_);refine goesL_ (some 24) rfl rfl Try.func73 (by kernel_rfl) rfl #[.agg #[.bool E,.int .u64 C,.int .u64 D,.int .i64 F]] rfl gS ?_;(with_reducible refine (addr_host.calls E C D F T U _ au.out).mono ?_);rintro e bl ⟨rfl,hb⟩;refine⟨_,rfl,?_⟩;replace B:=Bx0 B hb;replace HB:=Bs1 HB hb I.out;(try clear hb))|((with_reducible refine gate_dst (N:=3) rfl ?_);refine bX (N:=3) (cs:= #[.int .u64 0,.int .u64 0]) (t:=28) ?_;intro ay hg bm O hb;have af:=Ax (O);have az:=Gw1 HB hg I.out;have ag:=Gw1 HB hg I.out;replace HB:=Bs1 HB hb I.out;have ah:=Nl0 B hg;have aj:=Nr0 B hg;replace B:=Bx0 B hb;clear hb O hg;have bn:=aj.out;have bo:=ah.out;obtain⟨bq,br,bu,bv⟩:=cl2 af;obtain⟨bx,bz,bA,bB,bC,bD,bE,bF⟩:=cl4 B));go_ret;exact⟨eS,bw2 HB.out I.out ag.out⟩
end Go.Proofs.Ythkdfojmhloofaa.Q
end
section
namespace Go.Proofs.Ythkdfojmhloofaa.Q
open Go.RowKit Go.Proofs.YthkdfojmhloofaaW.PrintWords Go.Proofs.YthkdfojmhloofaaW.PrintLast Go.Proofs.YthkdfojmhloofaaW.PrintMore
attribute [local go_sem] max2_int min2_int max_two min_two max_three min_three max_four min_four   -- for this text's walks alone
set_option linter.unusedVariables false
set_option linter.unusedSimpArgs false
def wd (s : ByteArray) (o : Nat) : Nat → Int
  | 0 => 0
  | i + 1 => wd s o i + bt s ((o + i : Nat) : Int) * 2 ^ (56 - 8 * i)
set_option maxRecDepth 100000 in
theorem wd_mul (s:ByteArray) (o:Nat): ∀ i:Nat,i≤8→ ∃ m:Nat,wd s o i=((2 ^ (64 - 8 * i) * m:Nat):Int)∧m<2 ^ (8 * i)
  |0,_=>⟨0,by simp [wd]⟩
  |i+1,h=>by
    obtain⟨m,e,hm⟩:=wd_mul s o i (by omega);have hb:=bt_range s ((o+i:Nat):Int);have e1:2 ^ (64 - 8 * i)=256 * 2 ^ (56 - 8 * i):=by rw [show 64 - 8 * i=8+(56 - 8 * i) by omega,Nat.pow_add]
    have e2:2 ^ (8 * (i+1))=256 * 2 ^ (8 * i):=by rw [show 8 * (i+1)=8+8 * i by omega,Nat.pow_add]
    refine⟨256 * m+(bt s ((o+i:Nat):Int)).toNat,?_,by omega⟩;obtain⟨n,hn⟩: ∃ n:Nat,bt s ((o+i:Nat):Int)=n:=⟨(bt s ((o+i:Nat):Int)).toNat,by omega⟩;rw [wd,e,e1,hn,show 64 - 8 * (i+1)=56 - 8 * i by omega,Nat.mul_add,show (2:Int) ^ (56 - 8 * i)=((2 ^ (56 - 8 * i):Nat):Int) from (Int.natCast_pow 2 _).symm];generalize 2 ^ (56 - 8 * i)=E
    push_cast
    congr 1
    · rw [Int.mul_assoc,Int.mul_left_comm]
    · rw [Int.toNat_natCast,Int.mul_comm]
theorem wd_range (s:ByteArray) (o:Nat) (i:Nat) (h:i≤8):0≤wd s o i∧wd s o i≤18446744073709551615:=by
  obtain⟨m,e,hm⟩:=wd_mul s o i h;have h1:2 ^ (64 - 8 * i) * m<2 ^ (64 - 8 * i) * 2 ^ (8 * i):=Nat.mul_lt_mul_of_pos_left hm (Nat.two_pow_pos _);rw [← Nat.pow_add,show 64 - 8 * i+8 * i=64 by omega]at h1;rw [e];omega
theorem wd_or (s:ByteArray) (o i:Nat) (c:Int) (b:Int) (h:i≤7) (hc:c=2 ^ (56 - 8 * i)) (hb:b=bt s ((o+i:Nat):Int)):bits .or .u64 (wd s o i) (b * c)=wd s o (i+1):=by
  obtain⟨m,e,hm⟩:=wd_mul s o i (by omega);have hr:=wd_range s o i (by omega);have A:=wd_range s o (i+1) (by omega);have ac:=bt_range s ((o+i:Nat):Int);obtain⟨n,hn⟩: ∃ n:Nat,b=n:=⟨b.toNat,by omega⟩;rw [wd, ← hb, ← hc]at A ⊢;rw [e]at hr A ⊢;have e1:2 ^ (64 - 8 * i)=256 * 2 ^ (56 - 8 * i):=by rw [show 64 - 8 * i=8+(56 - 8 * i) by omega,Nat.pow_add]
  have aa:b * c=((n * 2 ^ (56 - 8 * i):Nat):Int):=by rw [hn,hc];push_cast;rfl
  have B:n * 2 ^ (56 - 8 * i)<2 ^ (64 - 8 * i):=by rw [e1];exact Nat.mul_lt_mul_of_pos_right (by omega) (Nat.two_pow_pos _)
  have ab:n * 2 ^ (56 - 8 * i)<18446744073709551616:=Nat.lt_of_lt_of_le B (by rw [show 18446744073709551616=2 ^ 64 from rfl];exact Nat.pow_le_pow_right (by omega) (by omega));rw [aa,u64_or_nat _ _ (by omega) ab, ← Nat.two_pow_add_eq_or_of_lt B]
  push_cast
  rfl
theorem wd_or7 (s:ByteArray) (o:Nat) (b:Int) (hb:b=bt s ((o+7:Nat):Int)):bits .or .u64 (wd s o 7) b=wd s o (7+1):=by
  have:=wd_or s o 7 1 b (by omega) rfl hb
  rwa [Int.mul_one]at this
def pfx_none:Option (Bool × Int × Int × Int × ByteArray × Int):=some (false,0,0,0,(⟨#[]⟩:ByteArray),7)
def pfx_of (k : Nat) (six : Bool) (hi lo ln : Int) (aa : ByteArray) : Option (Bool × Int × Int × Int × ByteArray × Int) :=
  (addr_Check.f k six hi lo ln).bind fun c => (if c = 0 then some (six, hi, lo, ln, aa, 0) else pfx_none)
def msg_GetPrefix.f (k : Nat) (a0 : ByteArray) : Option (Bool × Int × Int × Int × ByteArray × Int) :=
  if a0.size < 2 then pfx_none
  else if bt a0 0 = 4 then
    (if ((a0.extract 2 a0.size).size : Int) < (bt a0 1 + 7) / 8 then pfx_none else if bt a0 1 > 32 then pfx_none
     else pfx_of k false 0 (wd (a0.extract 2 a0.size) 0 (((bt a0 1).toNat + 7) / 8) / 4294967296) (bt a0 1) ((a0.extract 2 a0.size).extract (((bt a0 1).toNat + 7) / 8) (a0.extract 2 a0.size).size))
  else if bt a0 0 = 6 then
    (if ((a0.extract 2 a0.size).size : Int) < (bt a0 1 + 7) / 8 then pfx_none else if bt a0 1 > 128 then pfx_none
     else pfx_of k true (wd (a0.extract 2 a0.size) 0 (min 8 (((bt a0 1).toNat + 7) / 8))) (wd (a0.extract 2 a0.size) 8 (((bt a0 1).toNat + 7) / 8 - 8)) (bt a0 1) ((a0.extract 2 a0.size).extract (((bt a0 1).toNat + 7) / 8) (a0.extract 2 a0.size).size))
  else pfx_none
theorem msg_GetPrefix.mono: ∀ a0 k,LeO (msg_GetPrefix.f k a0) (msg_GetPrefix.f (k+1) a0):=by
  intro a0 k;unfold msg_GetPrefix.f pfx_of
  repeat' first
    | (with_reducible exact addr_Check.mono _ _ _ _ _)
    | (with_reducible exact LeO.refl _)
    | (with_reducible refine LeO.ite ?_ ?_)
    | (with_reducible refine LeO.bind ?_ (fun _ => ?_))
    | exact addr_Check.mono _ _ _ _ _
    | exact LeO.refl _
set_option maxHeartbeats 8000000 in
set_option maxRecDepth 100000 in
theorem msg_GetPrefix.calls (k:Nat) (a0:ByteArray) (r1:Bool) (r2:Int) (r3:Int) (r4:Int) (r5:ByteArray) (r6:Int) (w:World) (h:msg_GetPrefix.f k a0=some (r1,r2,r3,r4,r5,r6)):
    Calls Try.prog 36 #[.string a0] w fun e w'=>e= .returned (.tuple #[.agg #[.bool r1,.int .u64 r2,.int .u64 r3,.int .i64 r4],.string r5,.int .i64 r6])∧Below w.heap.size w w':=by
  unfold msg_GetPrefix.f at h;by_cases c1:a0.size<2;·rw [if_pos c1]at h;simp only[pfx_none,Option.some.injEq,Prod.mk.injEq]at h;obtain⟨rfl,rfl,rfl,rfl,rfl,rfl⟩:=h;have bA:decide ((a0.size:Int)<2)=true:=dT (by omega);go_enter Try.func36,Try.ntmps36;go_wp2;refine bodyPost_ret (results_ctt rfl _ _ w.heap.size 30 #[.bool false,.int .u64 0,.int .u64 0,.int .i64 0] (0,0) _ rfl (heap_alloc_new _ _) Try.underlying30 rfl (by kernel_rfl)) rfl ?_;exact⟨rfl,below_alloc (Below.refl _ _) _⟩
  · rw [if_neg c1]at h;have bA:decide ((a0.size:Int)<2)=false:=dF (by omega);have bJ: ∀ h:0<a0.size,((a0[0]'h).toNat:Int)=bt a0 0:=bt_at a0 0;have bB: ∀ h:1<a0.size,((a0[1]'h).toNat:Int)=bt a0 1:=bt_at a0 1;have s0:0<a0.size:=by omega
    have s1:1<a0.size:=by omega
    have q0:(0<(a0.size:Int))=True:=eq_true (by omega);have q1:(1<(a0.size:Int))=True:=eq_true (by omega);have q2:(2≤(a0.size:Int))=True:=eq_true (by omega);have bC:=bt_range a0 1;obtain⟨ln,bx⟩: ∃ ln:Nat,bt a0 1=ln:=⟨(bt a0 1).toNat,by omega⟩;rw [bx]at h bB bC;clear bx;by_cases c2:bt a0 0=4
    · rw [if_pos c2]at h;have bz:(bt a0 0 !=4)=false:=bne_eq_false_iff_eq.mpr c2;have bD:(bt a0 0==6)=false:=by rw [c2];decide
      go_enter Try.func36,Try.ntmps36;go_wp2;have ap:(w.alloc (.cells #[.bool false,.int .u64 0,.int .u64 0,.int .i64 0] 30)).heap[w.heap.size]? =some (.cells #[.bool false,.int .u64 0,.int .u64 0,.int .i64 0] 30 (0,0)):=heap_alloc_new _ _;have hb1':Below w.heap.size w (w.alloc (.cells #[.bool false,.int .u64 0,.int .u64 0,.int .i64 0] 30)):=below_alloc (Below.refl _ _) _;have aq:Aside0 ((w.alloc (.cells #[.bool false,.int .u64 0,.int .u64 0,.int .i64 0] 30)).heap.size=w.heap.size+1):=⟨by simp⟩;generalize (w.alloc (.cells #[.bool false,.int .u64 0,.int .u64 0,.int .i64 0] 30))=w1 at ap hb1' aq ⊢;obtain⟨gr,aA⟩: ∃ gr,w.heap.size=gr:=⟨_,rfl⟩;have ar:=Aside0.mk aA;rw [aA]at ap aq ⊢;have aR:=Aside0.mk ap;have aT:=Aside0.mk hb1';clear ap hb1' aA;go_region;have aC:(w1.alloc (.cells #[.bool false,.int .u64 0,.int .u64 0,.int .i64 ln] 30)).drew.heap[gr]? =some (.cells #[.bool false,.int .u64 0,.int .u64 0,.int .i64 0] 30 (0,0)):=blk_drew (blk_alloc aR.out _);have au:(w1.alloc (.cells #[.bool false,.int .u64 0,.int .u64 0,.int .i64 ln] 30)).drew.heap[w1.heap.size]? =some (.cells #[.bool false,.int .u64 0,.int .u64 0,.int .i64 ln] 30 (0,0)):=blk_drew (heap_alloc_new _ _);have aD:Below w.heap.size w (w1.alloc (.cells #[.bool false,.int .u64 0,.int .u64 0,.int .i64 ln] 30)).drew:=below_drew1 (below_alloc aT.out _);have ah:Aside0 (w1.heap.size=gr+1):=aq;generalize (w1.alloc (.cells #[.bool false,.int .u64 0,.int .u64 0,.int .i64 ln] 30)).drew=w2 at aC au aD ⊢;obtain⟨gp,aU⟩: ∃ gp,w1.heap.size=gp:=⟨_,rfl⟩;rw [aU]at au ah ⊢;have aE:=Aside0.mk aD;have aG:=Aside0.mk aC;have aH:=Aside0.mk au;clear aU aD aC au aq aR aT;have aj:w2.cell? ⟨gp,0,none⟩=some (.bool false):=(blk_cell aH.out 0).trans rfl;have al:w2.cell? ⟨gp,3,none⟩=some (.int .i64 ln):=(blk_cell aH.out 3).trans rfl;go_wp2;have aV:(a0.extract 2 a0.size).size=a0.size - 2:=by simp
      generalize a0.extract 2 a0.size=rest at h aV ⊢;have bc: ∀ q,(w2.drewN q).cell? ⟨gp,0,none⟩=some (.bool false):=fun _=>aj
      have bd: ∀ q,(w2.drewN q).cell? ⟨gp,3,none⟩=some (.int .i64 ln):=fun _=>al
      by_cases c3:(rest.size:Int)<((ln:Int)+7) / 8
      · rw [if_pos c3]at h;simp only[pfx_none,Option.some.injEq,Prod.mk.injEq]at h;obtain⟨rfl,rfl,rfl,rfl,rfl,rfl⟩:=h;have hd:decide (((a0.size - 2:Nat):Int)<((ln:Int)+8 - 1) / 8)=true:=dT (by omega);go_quiet (fail);have aa:=blk_drewN aG.out nq;have ab:=pw_below_drewN aE.out nq;generalize w2.drewN nq=w3 at aa ab ⊢;have G:=Aside0.mk aa;have ag:=Aside0.mk ab;clear aa ab;have aW:=(blk_cell G.out 0).trans rfl;have aY:=(blk_cell G.out 1).trans rfl;have aZ:=(blk_cell G.out 2).trans rfl;have b2:=(blk_cell G.out 3).trans rfl;have av:=blk_frozen G.out 0;have aw:=blk_frozen G.out 1;have ax:=blk_frozen G.out 2;have ay:=blk_frozen G.out 3;go_wp2;have V:w.heap.size≤gr:=by have:=ar.out;omega
        refine bodyPost_ret (results_ctt rfl _ _ gr 30 #[.bool false,.int .u64 0,.int .u64 0,.int .i64 0] (0,0) _ rfl (blk_put (blk_put (blk_put (blk_put G.out 0 (.bool false) rfl) 1 (.int .u64 0) rfl) 2 (.int .u64 0) rfl) 3 (.int .i64 0) rfl) Try.underlying30 rfl (by kernel_rfl)) rfl ?_;exact⟨rfl,(((ag.out.setCell (p:=⟨gr,0,none⟩) V _).setCell (p:=⟨gr,1,none⟩) V _).setCell (p:=⟨gr,2,none⟩) V _).setCell (p:=⟨gr,3,none⟩) V _⟩
      · rw [if_neg c3]at h;have hd:decide (((a0.size - 2:Nat):Int)<((ln:Int)+8 - 1) / 8)=false:=dF (by omega);by_cases c4:(ln:Int) > 32
        · rw [if_pos c4]at h;simp only[pfx_none,Option.some.injEq,Prod.mk.injEq]at h;obtain⟨rfl,rfl,rfl,rfl,rfl,rfl⟩:=h;have bf:decide (32<(ln:Int))=true:=dT c4;go_big_quiet (first|(go_at_call 58;exact Calls.quiet_of ((addr_Wide.calls false 32 _ rfl).mono (fun e w' h=>⟨h.1,h.2.out⟩))));have aa:=blk_drewN aG.out nq;have ab:=pw_below_drewN aE.out nq;generalize w2.drewN nq=w3 at aa ab ⊢;have G:=Aside0.mk aa;have ag:=Aside0.mk ab;clear aa ab;have aW:=(blk_cell G.out 0).trans rfl;have aY:=(blk_cell G.out 1).trans rfl;have aZ:=(blk_cell G.out 2).trans rfl;have b2:=(blk_cell G.out 3).trans rfl;have av:=blk_frozen G.out 0;have aw:=blk_frozen G.out 1;have ax:=blk_frozen G.out 2;have ay:=blk_frozen G.out 3;go_wp2;have V:w.heap.size≤gr:=by have:=ar.out;omega
          refine bodyPost_ret (results_ctt rfl _ _ gr 30 #[.bool false,.int .u64 0,.int .u64 0,.int .i64 0] (0,0) _ rfl (blk_put (blk_put (blk_put (blk_put G.out 0 (.bool false) rfl) 1 (.int .u64 0) rfl) 2 (.int .u64 0) rfl) 3 (.int .i64 0) rfl) Try.underlying30 rfl (by kernel_rfl)) rfl ?_;exact⟨rfl,(((ag.out.setCell (p:=⟨gr,0,none⟩) V _).setCell (p:=⟨gr,1,none⟩) V _).setCell (p:=⟨gr,2,none⟩) V _).setCell (p:=⟨gr,3,none⟩) V _⟩
        · rw [if_neg c4]at h;have bf:decide (32<(ln:Int))=false:=dF c4;have bb:Aside0 (ln≤32):=⟨by omega⟩;have I:Aside0 ((ln+7) / 8≤rest.size):=⟨by omega⟩;unfold pfx_of at h;obtain⟨c,hC,h⟩:=Option.bind_eq_some_iff.mp h;have C:=Aside0.mk hC;have H:=Aside0.mk h;clear h hC;go_big_quiet (first|(go_at_call 58;exact Calls.quiet_of ((addr_Wide.calls false 32 _ rfl).mono (fun e w' h=>⟨h.1,h.2.out⟩))));clear aV;have aa:=blk_drewN aG.out nq;have aI:=blk_drewN aH.out nq;have ab:=pw_below_drewN aE.out nq;clear aj al bc bd;generalize w2.drewN nq=w3 at aa aI ab ⊢;have G:=Aside0.mk aa;have b3:=Aside0.mk aI;have ag:=Aside0.mk ab;clear aa ab aI;go_wp2;have aJ:w3.heap.size≠gr∧w3.heap.size≠gp∧w.heap.size≤w3.heap.size:=⟨fun e=>by have:=blk_lt G.out;omega,fun e=>by have:=blk_lt b3.out;omega,ag.out.size⟩;have aK:=blk_alloc G.out (.cells #[.int .u64 0,.int .u64 0] 116);have aM:=blk_alloc b3.out (.cells #[.int .u64 0,.int .u64 0] 116);have bw4:=heap_alloc_new w3 (.cells #[.int .u64 0,.int .u64 0] 116);have aN:=below_alloc ag.out (.cells #[.int .u64 0,.int .u64 0] 116);generalize w3.alloc (.cells #[.int .u64 0,.int .u64 0] 116)=w4 at aK aM bw4 aN ⊢;generalize w3.heap.size=gw at bw4 aJ ⊢;have F:=Aside0.mk aJ;have bg:=Aside0.mk aK;have bh:=Aside0.mk aM;have bi:=Aside0.mk bw4;have bj:=Aside0.mk aN;clear aJ aK aM bw4 aN;go_loopg [51] 17 (fun kq bk w'=> ∃ (i:Nat),i≤(ln+7) / 8∧kq=17 - i∧bk= .int .i64 (i:Int)∧Aside0 (Below w.heap.size w w')∧Aside0 (w'.heap[gr]? =some (.cells #[.bool false,.int .u64 0,.int .u64 0,.int .i64 0] 30 (0,0)))∧Aside0 (w'.heap[gp]? =some (.cells #[.bool false,.int .u64 0,.int .u64 0,.int .i64 ln] 30 (0,0)))∧Aside0 (w'.heap[gw]? =some (.cells #[.int .u64 (wd rest 0 (min 8 i)),.int .u64 (wd rest 8 (i - 8))] 116 (0,0))))
          case atStart=>exact⟨0,by omega,rfl,rfl,bj,bg,bh,bi⟩
          case round=>
            obtain⟨i,hi,rfl,rfl,ac,ae,L,A⟩:=hrel;by_cases X:i<(ln+7) / 8
            · match i,hi,X,A with
              |0,_,X,A=>
                have hd:decide ((0:Int)<((ln:Int)+8 - 1) / 8)=true:=dT (by omega);have hq:(0<(rest.size:Int))=True:=eq_true (by have:=I.out;omega);have hq':0<rest.size:=by have:=I.out;omega
                have hz: ∀ h:0<rest.size,((rest[0]'h).toNat:Int)=bt rest 0:=bt_at rest 0;have hc:=(blk_cell A.out 0).trans (rfl:_=some (Value.int .u64 (wd rest 0 0)));have hf:=blk_frozen A.out 0;have M:=wd_range rest 0 0 (by omega);have N:=bt_range rest 0;go_wp2;go_region;clear hc hf M N hz hd;rw [wd_or rest 0 0 72057594037927936 (bt rest 0) (by omega) rfl rfl];have bw6:=blk_drew (blk_put A.out 0 (.int .u64 (wd rest 0 1)) rfl);have B:=blk_drew (blk_far ae.out (p:=⟨gw,0,none⟩) (by simpa using fun e=>F.out.1 e.symm) (.int .u64 (wd rest 0 1)));have D:=blk_drew (blk_far L.out (p:=⟨gw,0,none⟩) (by simpa using fun e=>F.out.2.1 e.symm) (.int .u64 (wd rest 0 1)));have E:=below_drew1 (ac.out.setCell (p:=⟨gw,0,none⟩) F.out.2.2 (.int .u64 (wd rest 0 1)));generalize (World.setCell _ ⟨gw,0,none⟩ (.int .u64 (wd rest 0 1))).drew=w6 at bw6 B D E ⊢;have O:=Aside0.mk bw6;have R:=Aside0.mk B;have T:=Aside0.mk D;have U:=Aside0.mk E;clear bw6 B D E;go_wp2;go_roundg (17 - (0+1))
                case measure=>omega
                case rel=>exact⟨0+1,by omega,rfl,rfl,U,R,T,O⟩
              |1,_,X,A=>
                have hd:decide ((1:Int)<((ln:Int)+8 - 1) / 8)=true:=dT (by omega);have hq:(1<(rest.size:Int))=True:=eq_true (by have:=I.out;omega);have hq':1<rest.size:=by have:=I.out;omega
                have hz: ∀ h:1<rest.size,((rest[1]'h).toNat:Int)=bt rest 1:=bt_at rest 1;have hc:=(blk_cell A.out 0).trans (rfl:_=some (Value.int .u64 (wd rest 0 1)));have hf:=blk_frozen A.out 0;have M:=wd_range rest 0 1 (by omega);have N:=bt_range rest 1;go_wp2;go_region;clear hc hf M N hz hd;rw [wd_or rest 0 1 281474976710656 (bt rest 1) (by omega) rfl rfl];have bw6:=blk_drew (blk_put A.out 0 (.int .u64 (wd rest 0 2)) rfl);have B:=blk_drew (blk_far ae.out (p:=⟨gw,0,none⟩) (by simpa using fun e=>F.out.1 e.symm) (.int .u64 (wd rest 0 2)));have D:=blk_drew (blk_far L.out (p:=⟨gw,0,none⟩) (by simpa using fun e=>F.out.2.1 e.symm) (.int .u64 (wd rest 0 2)));have E:=below_drew1 (ac.out.setCell (p:=⟨gw,0,none⟩) F.out.2.2 (.int .u64 (wd rest 0 2)));generalize (World.setCell _ ⟨gw,0,none⟩ (.int .u64 (wd rest 0 2))).drew=w6 at bw6 B D E ⊢;have O:=Aside0.mk bw6;have R:=Aside0.mk B;have T:=Aside0.mk D;have U:=Aside0.mk E;clear bw6 B D E;go_wp2;go_roundg (17 - (1+1))
                case measure=>omega
                case rel=>exact⟨1+1,by omega,rfl,rfl,U,R,T,O⟩
              |2,_,X,A=>
                have hd:decide ((2:Int)<((ln:Int)+8 - 1) / 8)=true:=dT (by omega);have hq:(2<(rest.size:Int))=True:=eq_true (by have:=I.out;omega);have hq':2<rest.size:=by have:=I.out;omega
                have hz: ∀ h:2<rest.size,((rest[2]'h).toNat:Int)=bt rest 2:=bt_at rest 2;have hc:=(blk_cell A.out 0).trans (rfl:_=some (Value.int .u64 (wd rest 0 2)));have hf:=blk_frozen A.out 0;have M:=wd_range rest 0 2 (by omega);have N:=bt_range rest 2;go_wp2;go_region;clear hc hf M N hz hd;rw [wd_or rest 0 2 1099511627776 (bt rest 2) (by omega) rfl rfl];have bw6:=blk_drew (blk_put A.out 0 (.int .u64 (wd rest 0 3)) rfl);have B:=blk_drew (blk_far ae.out (p:=⟨gw,0,none⟩) (by simpa using fun e=>F.out.1 e.symm) (.int .u64 (wd rest 0 3)));have D:=blk_drew (blk_far L.out (p:=⟨gw,0,none⟩) (by simpa using fun e=>F.out.2.1 e.symm) (.int .u64 (wd rest 0 3)));have E:=below_drew1 (ac.out.setCell (p:=⟨gw,0,none⟩) F.out.2.2 (.int .u64 (wd rest 0 3)));generalize (World.setCell _ ⟨gw,0,none⟩ (.int .u64 (wd rest 0 3))).drew=w6 at bw6 B D E ⊢;have O:=Aside0.mk bw6;have R:=Aside0.mk B;have T:=Aside0.mk D;have U:=Aside0.mk E;clear bw6 B D E;go_wp2;go_roundg (17 - (2+1))
                case measure=>omega
                case rel=>exact⟨2+1,by omega,rfl,rfl,U,R,T,O⟩
              |3,_,X,A=>
                have hd:decide ((3:Int)<((ln:Int)+8 - 1) / 8)=true:=dT (by omega);have hq:(3<(rest.size:Int))=True:=eq_true (by have:=I.out;omega);have hq':3<rest.size:=by have:=I.out;omega
                have hz: ∀ h:3<rest.size,((rest[3]'h).toNat:Int)=bt rest 3:=bt_at rest 3;have hc:=(blk_cell A.out 0).trans (rfl:_=some (Value.int .u64 (wd rest 0 3)));have hf:=blk_frozen A.out 0;have M:=wd_range rest 0 3 (by omega);have N:=bt_range rest 3;go_wp2;go_region;clear hc hf M N hz hd;rw [wd_or rest 0 3 4294967296 (bt rest 3) (by omega) rfl rfl];have bw6:=blk_drew (blk_put A.out 0 (.int .u64 (wd rest 0 4)) rfl);have B:=blk_drew (blk_far ae.out (p:=⟨gw,0,none⟩) (by simpa using fun e=>F.out.1 e.symm) (.int .u64 (wd rest 0 4)));have D:=blk_drew (blk_far L.out (p:=⟨gw,0,none⟩) (by simpa using fun e=>F.out.2.1 e.symm) (.int .u64 (wd rest 0 4)));have E:=below_drew1 (ac.out.setCell (p:=⟨gw,0,none⟩) F.out.2.2 (.int .u64 (wd rest 0 4)));generalize (World.setCell _ ⟨gw,0,none⟩ (.int .u64 (wd rest 0 4))).drew=w6 at bw6 B D E ⊢;have O:=Aside0.mk bw6;have R:=Aside0.mk B;have T:=Aside0.mk D;have U:=Aside0.mk E;clear bw6 B D E;go_wp2;go_roundg (17 - (3+1))
                case measure=>omega
                case rel=>exact⟨3+1,by omega,rfl,rfl,U,R,T,O⟩
              |n+4,_,X,_=>exact absurd X (by have:=bb.out;omega)
            · have hd:decide ((i:Int)<((ln:Int)+8 - 1) / 8)=false:=dF (by omega);obtain rfl:i=(ln+7) / 8:=by omega
              have bw6:=A.out;have em:min 8 ((ln+7) / 8)=(ln+7) / 8:=by have:=bb.out;omega
              rw [em]at bw6;have bl:=(blk_cell bw6 0).trans (rfl:_=some (Value.int .u64 (wd rest 0 ((ln+7) / 8))));have bm:=(blk_cell bw6 1).trans (rfl:_=some (Value.int .u64 (wd rest 8 ((ln+7) / 8 - 8))));have aj:=(blk_cell L.out 0).trans (rfl:_=some (Value.bool false));have b4:=(blk_cell L.out 1).trans (rfl:_=some (Value.int .u64 0));have b5:=(blk_cell L.out 2).trans (rfl:_=some (Value.int .u64 0));have al:=(blk_cell L.out 3).trans (rfl:_=some (Value.int .i64 ln));have av:=blk_frozen L.out 0;have aw:=blk_frozen L.out 1;have ax:=blk_frozen L.out 2;have ay:=blk_frozen L.out 3
              skip
              have b6:((((World.setCell wr ⟨gp,1,none⟩ (.int .u64 (wd rest 0 ((ln+7) / 8)))).setCell ⟨gp,2,none⟩ (.int .u64 (wd rest 8 ((ln+7) / 8 - 8)))).setCell ⟨gp,1,none⟩ (.int .u64 0)).setCell ⟨gp,2,none⟩ (.int .u64 (wd rest 0 ((ln+7) / 8) / 4294967296))).heap[gp]? =some (.cells #[.bool false,.int .u64 0,.int .u64 (wd rest 0 ((ln+7) / 8) / 4294967296),.int .i64 ln] 30 (0,0)):=blk_put (blk_put (blk_put (blk_put L.out 1 (.int .u64 (wd rest 0 ((ln+7) / 8))) rfl) 2 (.int .u64 (wd rest 8 ((ln+7) / 8 - 8))) rfl) 1 (.int .u64 0) rfl) 2 (.int .u64 (wd rest 0 ((ln+7) / 8) / 4294967296)) rfl;have aQ:w.heap.size≤gp:=by have:=ah.out;have:=ar.out;omega
              have b7:((((World.setCell wr ⟨gp,1,none⟩ (.int .u64 (wd rest 0 ((ln+7) / 8)))).setCell ⟨gp,2,none⟩ (.int .u64 (wd rest 8 ((ln+7) / 8 - 8)))).setCell ⟨gp,1,none⟩ (.int .u64 0)).setCell ⟨gp,2,none⟩ (.int .u64 (wd rest 0 ((ln+7) / 8) / 4294967296))).heap[gr]? =some (.cells #[.bool false,.int .u64 0,.int .u64 0,.int .i64 0] 30 (0,0)):=blk_far (blk_far (blk_far (blk_far ae.out (p:=⟨gp,1,none⟩) (by have:=ah.out;simp;omega) (.int .u64 (wd rest 0 ((ln+7) / 8)))) (p:=⟨gp,2,none⟩) (by have:=ah.out;simp;omega) (.int .u64 (wd rest 8 ((ln+7) / 8 - 8)))) (p:=⟨gp,1,none⟩) (by have:=ah.out;simp;omega) (.int .u64 0)) (p:=⟨gp,2,none⟩) (by have:=ah.out;simp;omega) (.int .u64 (wd rest 0 ((ln+7) / 8) / 4294967296));have b8:Below w.heap.size w ((((World.setCell wr ⟨gp,1,none⟩ (.int .u64 (wd rest 0 ((ln+7) / 8)))).setCell ⟨gp,2,none⟩ (.int .u64 (wd rest 8 ((ln+7) / 8 - 8)))).setCell ⟨gp,1,none⟩ (.int .u64 0)).setCell ⟨gp,2,none⟩ (.int .u64 (wd rest 0 ((ln+7) / 8) / 4294967296))):=(((ac.out.setCell (p:=⟨gp,1,none⟩) aQ (.int .u64 (wd rest 0 ((ln+7) / 8)))).setCell (p:=⟨gp,2,none⟩) aQ (.int .u64 (wd rest 8 ((ln+7) / 8 - 8)))).setCell (p:=⟨gp,1,none⟩) aQ (.int .u64 0)).setCell (p:=⟨gp,2,none⟩) aQ (.int .u64 (wd rest 0 ((ln+7) / 8) / 4294967296));have am:=Aside0.mk b6;have bn:=Aside0.mk b7;have bo:=Aside0.mk b8;clear b6 b7 b8;have bq:=(blk_cell am.out 0).trans (rfl:_=some (Value.bool false));have br:=(blk_cell am.out 1).trans (rfl:_=some (Value.int .u64 0));have bu:=(blk_cell am.out 2).trans (rfl:_=some (Value.int .u64 (wd rest 0 ((ln+7) / 8) / 4294967296)));have bv:=(blk_cell am.out 3).trans (rfl:_=some (Value.int .i64 ln));go_wp2_with (fail);refine (addr_Check.calls k false 0 (wd rest 0 ((ln+7) / 8) / 4294967296) ln c _ (by simpa using C.out)).mono ?_
              rintro e w8 ⟨rfl,hb⟩
              have az:=Aside0.mk (blk_below am.out hb);have af:=Aside0.mk (blk_below bn.out hb);have b9:=Aside0.mk (below_step bo.out hb);clear hb bq br bu bv bl bm aj b4 b5 al av aw ax ay;have aW:=(blk_cell af.out 0).trans rfl;have aY:=(blk_cell af.out 1).trans rfl;have aZ:=(blk_cell af.out 2).trans rfl;have b2:=(blk_cell af.out 3).trans rfl;have av:=blk_frozen af.out 0;have aw:=blk_frozen af.out 1;have ax:=blk_frozen af.out 2;have ay:=blk_frozen af.out 3;have V:w.heap.size≤gr:=by have:=ar.out;omega
              by_cases hc:c=0
              · subst hc;have h:=H.out;rw [if_pos rfl]at h;simp only[Option.some.injEq,Prod.mk.injEq]at h;obtain⟨rfl,rfl,rfl,rfl,rfl,rfl⟩:=h;have aj:=(blk_cell az.out 0).trans (rfl:_=some (Value.bool false));have b4:=(blk_cell az.out 1).trans (rfl:_=some (Value.int .u64 0));have b5:=(blk_cell az.out 2).trans (rfl:_=some (Value.int .u64 (wd rest 0 ((ln+7) / 8) / 4294967296)));have al:=(blk_cell az.out 3).trans (rfl:_=some (Value.int .i64 ln));obtain⟨n,ba⟩: ∃ n:Nat,(((ln:Int)+8 - 1) / 8)=(n:Int):=⟨(ln+7) / 8,by omega⟩;have HN:Aside0 (n=(ln+7) / 8):=⟨by omega⟩;have bE:n≤rest.size:=by have:=I.out;have:=HN.out;omega
                have bF:(0≤(n:Int))=True:=eq_true (by omega);rw [ba];clear ba;go_wp2;go_region;go_wp2;obtain rfl:=HN.out;refine bodyPost_ret (results_ctt rfl _ _ gr 30 #[.bool false,.int .u64 0,.int .u64 (wd rest 0 ((ln+7) / 8) / 4294967296),.int .i64 ln] (0,0) _ rfl (blk_put (blk_put (blk_put (blk_put af.out 0 (.bool false) rfl) 1 (.int .u64 0) rfl) 2 (.int .u64 (wd rest 0 ((ln+7) / 8) / 4294967296)) rfl) 3 (.int .i64 ln) rfl) Try.underlying30 rfl (by kernel_rfl)) rfl ?_;exact⟨rfl,below_drew1 ((((b9.out.setCell (p:=⟨gr,0,none⟩) V _).setCell (p:=⟨gr,1,none⟩) V _).setCell (p:=⟨gr,2,none⟩) V _).setCell (p:=⟨gr,3,none⟩) V _)⟩
              ·have h:=H.out;rw [if_neg hc]at h;have bG:(c !=0)=true:=bne_iff_ne.mpr hc;simp only[pfx_none,Option.some.injEq,Prod.mk.injEq]at h;obtain⟨rfl,rfl,rfl,rfl,rfl,rfl⟩:=h;go_wp2;refine bodyPost_ret (results_ctt rfl _ _ gr 30 #[.bool false,.int .u64 0,.int .u64 0,.int .i64 0] (0,0) _ rfl (blk_put (blk_put (blk_put (blk_put af.out 0 (.bool false) rfl) 1 (.int .u64 0) rfl) 2 (.int .u64 0) rfl) 3 (.int .i64 0) rfl) Try.underlying30 rfl (by kernel_rfl)) rfl ?_;exact⟨rfl,(((b9.out.setCell (p:=⟨gr,0,none⟩) V _).setCell (p:=⟨gr,1,none⟩) V _).setCell (p:=⟨gr,2,none⟩) V _).setCell (p:=⟨gr,3,none⟩) V _⟩
    · rw [if_neg c2]at h;by_cases c2':bt a0 0=6
      · rw [if_pos c2']at h;have bz:(bt a0 0 !=4)=true:=bne_iff_ne.mpr c2;have bH:(bt a0 0 !=6)=false:=bne_eq_false_iff_eq.mpr c2';have bD:(bt a0 0==6)=true:=beq_iff_eq.mpr c2';go_enter Try.func36,Try.ntmps36;go_wp2;have ap:(w.alloc (.cells #[.bool false,.int .u64 0,.int .u64 0,.int .i64 0] 30)).heap[w.heap.size]? =some (.cells #[.bool false,.int .u64 0,.int .u64 0,.int .i64 0] 30 (0,0)):=heap_alloc_new _ _;have hb1':Below w.heap.size w (w.alloc (.cells #[.bool false,.int .u64 0,.int .u64 0,.int .i64 0] 30)):=below_alloc (Below.refl _ _) _;have aq:Aside0 ((w.alloc (.cells #[.bool false,.int .u64 0,.int .u64 0,.int .i64 0] 30)).heap.size=w.heap.size+1):=⟨by simp⟩;generalize (w.alloc (.cells #[.bool false,.int .u64 0,.int .u64 0,.int .i64 0] 30))=w1 at ap hb1' aq ⊢;obtain⟨gr,aA⟩: ∃ gr,w.heap.size=gr:=⟨_,rfl⟩;have ar:=Aside0.mk aA;rw [aA]at ap aq ⊢;have aR:=Aside0.mk ap;have aT:=Aside0.mk hb1';clear ap hb1' aA;go_region;have aC:(w1.alloc (.cells #[.bool true,.int .u64 0,.int .u64 0,.int .i64 ln] 30)).drew.heap[gr]? =some (.cells #[.bool false,.int .u64 0,.int .u64 0,.int .i64 0] 30 (0,0)):=blk_drew (blk_alloc aR.out _);have au:(w1.alloc (.cells #[.bool true,.int .u64 0,.int .u64 0,.int .i64 ln] 30)).drew.heap[w1.heap.size]? =some (.cells #[.bool true,.int .u64 0,.int .u64 0,.int .i64 ln] 30 (0,0)):=blk_drew (heap_alloc_new _ _);have aD:Below w.heap.size w (w1.alloc (.cells #[.bool true,.int .u64 0,.int .u64 0,.int .i64 ln] 30)).drew:=below_drew1 (below_alloc aT.out _);have ah:Aside0 (w1.heap.size=gr+1):=aq;generalize (w1.alloc (.cells #[.bool true,.int .u64 0,.int .u64 0,.int .i64 ln] 30)).drew=w2 at aC au aD ⊢;obtain⟨gp,aU⟩: ∃ gp,w1.heap.size=gp:=⟨_,rfl⟩;rw [aU]at au ah ⊢;have aE:=Aside0.mk aD;have aG:=Aside0.mk aC;have aH:=Aside0.mk au;clear aU aD aC au aq aR aT;have aj:w2.cell? ⟨gp,0,none⟩=some (.bool true):=(blk_cell aH.out 0).trans rfl;have al:w2.cell? ⟨gp,3,none⟩=some (.int .i64 ln):=(blk_cell aH.out 3).trans rfl;go_wp2;have aV:(a0.extract 2 a0.size).size=a0.size - 2:=by simp
        generalize a0.extract 2 a0.size=rest at h aV ⊢;have bc: ∀ q,(w2.drewN q).cell? ⟨gp,0,none⟩=some (.bool true):=fun _=>aj
        have bd: ∀ q,(w2.drewN q).cell? ⟨gp,3,none⟩=some (.int .i64 ln):=fun _=>al
        by_cases c3:(rest.size:Int)<((ln:Int)+7) / 8
        · rw [if_pos c3]at h;simp only[pfx_none,Option.some.injEq,Prod.mk.injEq]at h;obtain⟨rfl,rfl,rfl,rfl,rfl,rfl⟩:=h;have hd:decide (((a0.size - 2:Nat):Int)<((ln:Int)+8 - 1) / 8)=true:=dT (by omega);go_quiet (fail);have aa:=blk_drewN aG.out nq;have ab:=pw_below_drewN aE.out nq;generalize w2.drewN nq=w3 at aa ab ⊢;have G:=Aside0.mk aa;have ag:=Aside0.mk ab;clear aa ab;have aW:=(blk_cell G.out 0).trans rfl;have aY:=(blk_cell G.out 1).trans rfl;have aZ:=(blk_cell G.out 2).trans rfl;have b2:=(blk_cell G.out 3).trans rfl;have av:=blk_frozen G.out 0;have aw:=blk_frozen G.out 1;have ax:=blk_frozen G.out 2;have ay:=blk_frozen G.out 3;go_wp2;have V:w.heap.size≤gr:=by have:=ar.out;omega
          refine bodyPost_ret (results_ctt rfl _ _ gr 30 #[.bool false,.int .u64 0,.int .u64 0,.int .i64 0] (0,0) _ rfl (blk_put (blk_put (blk_put (blk_put G.out 0 (.bool false) rfl) 1 (.int .u64 0) rfl) 2 (.int .u64 0) rfl) 3 (.int .i64 0) rfl) Try.underlying30 rfl (by kernel_rfl)) rfl ?_;exact⟨rfl,(((ag.out.setCell (p:=⟨gr,0,none⟩) V _).setCell (p:=⟨gr,1,none⟩) V _).setCell (p:=⟨gr,2,none⟩) V _).setCell (p:=⟨gr,3,none⟩) V _⟩
        · rw [if_neg c3]at h;have hd:decide (((a0.size - 2:Nat):Int)<((ln:Int)+8 - 1) / 8)=false:=dF (by omega);by_cases c4:(ln:Int) > 128
          · rw [if_pos c4]at h;simp only[pfx_none,Option.some.injEq,Prod.mk.injEq]at h;obtain⟨rfl,rfl,rfl,rfl,rfl,rfl⟩:=h;have bf:decide (128<(ln:Int))=true:=dT c4;go_big_quiet (first|(go_at_call 58;exact Calls.quiet_of ((addr_Wide.calls true 128 _ rfl).mono (fun e w' h=>⟨h.1,h.2.out⟩))));have aa:=blk_drewN aG.out nq;have ab:=pw_below_drewN aE.out nq;generalize w2.drewN nq=w3 at aa ab ⊢;have G:=Aside0.mk aa;have ag:=Aside0.mk ab;clear aa ab;have aW:=(blk_cell G.out 0).trans rfl;have aY:=(blk_cell G.out 1).trans rfl;have aZ:=(blk_cell G.out 2).trans rfl;have b2:=(blk_cell G.out 3).trans rfl;have av:=blk_frozen G.out 0;have aw:=blk_frozen G.out 1;have ax:=blk_frozen G.out 2;have ay:=blk_frozen G.out 3;go_wp2;have V:w.heap.size≤gr:=by have:=ar.out;omega
            refine bodyPost_ret (results_ctt rfl _ _ gr 30 #[.bool false,.int .u64 0,.int .u64 0,.int .i64 0] (0,0) _ rfl (blk_put (blk_put (blk_put (blk_put G.out 0 (.bool false) rfl) 1 (.int .u64 0) rfl) 2 (.int .u64 0) rfl) 3 (.int .i64 0) rfl) Try.underlying30 rfl (by kernel_rfl)) rfl ?_;exact⟨rfl,(((ag.out.setCell (p:=⟨gr,0,none⟩) V _).setCell (p:=⟨gr,1,none⟩) V _).setCell (p:=⟨gr,2,none⟩) V _).setCell (p:=⟨gr,3,none⟩) V _⟩
          · rw [if_neg c4]at h;have bf:decide (128<(ln:Int))=false:=dF c4;have bb:Aside0 (ln≤128):=⟨by omega⟩;have I:Aside0 ((ln+7) / 8≤rest.size):=⟨by omega⟩;unfold pfx_of at h;obtain⟨c,hC,h⟩:=Option.bind_eq_some_iff.mp h;have C:=Aside0.mk hC;have H:=Aside0.mk h;clear h hC;go_big_quiet (first|(go_at_call 58;exact Calls.quiet_of ((addr_Wide.calls true 128 _ rfl).mono (fun e w' h=>⟨h.1,h.2.out⟩))));clear aV;have aa:=blk_drewN aG.out nq;have aI:=blk_drewN aH.out nq;have ab:=pw_below_drewN aE.out nq;clear aj al bc bd;generalize w2.drewN nq=w3 at aa aI ab ⊢;have G:=Aside0.mk aa;have b3:=Aside0.mk aI;have ag:=Aside0.mk ab;clear aa ab aI;go_wp2;have aJ:w3.heap.size≠gr∧w3.heap.size≠gp∧w.heap.size≤w3.heap.size:=⟨fun e=>by have:=blk_lt G.out;omega,fun e=>by have:=blk_lt b3.out;omega,ag.out.size⟩;have aK:=blk_alloc G.out (.cells #[.int .u64 0,.int .u64 0] 116);have aM:=blk_alloc b3.out (.cells #[.int .u64 0,.int .u64 0] 116);have bw4:=heap_alloc_new w3 (.cells #[.int .u64 0,.int .u64 0] 116);have aN:=below_alloc ag.out (.cells #[.int .u64 0,.int .u64 0] 116);generalize w3.alloc (.cells #[.int .u64 0,.int .u64 0] 116)=w4 at aK aM bw4 aN ⊢;generalize w3.heap.size=gw at bw4 aJ ⊢;have F:=Aside0.mk aJ;have bg:=Aside0.mk aK;have bh:=Aside0.mk aM;have bi:=Aside0.mk bw4;have bj:=Aside0.mk aN;clear aJ aK aM bw4 aN;go_loopg [51] 17 (fun kq bk w'=> ∃ (i:Nat),i≤(ln+7) / 8∧kq=17 - i∧bk= .int .i64 (i:Int)∧Aside0 (Below w.heap.size w w')∧Aside0 (w'.heap[gr]? =some (.cells #[.bool false,.int .u64 0,.int .u64 0,.int .i64 0] 30 (0,0)))∧Aside0 (w'.heap[gp]? =some (.cells #[.bool true,.int .u64 0,.int .u64 0,.int .i64 ln] 30 (0,0)))∧Aside0 (w'.heap[gw]? =some (.cells #[.int .u64 (wd rest 0 (min 8 i)),.int .u64 (wd rest 8 (i - 8))] 116 (0,0))))
            case atStart=>exact⟨0,by omega,rfl,rfl,bj,bg,bh,bi⟩
            case round=>
              obtain⟨i,hi,rfl,rfl,ac,ae,L,A⟩:=hrel;by_cases X:i<(ln+7) / 8
              · match i,hi,X,A with
                |0,_,X,A=>
                  have hd:decide ((0:Int)<((ln:Int)+8 - 1) / 8)=true:=dT (by omega);have hq:(0<(rest.size:Int))=True:=eq_true (by have:=I.out;omega);have hq':0<rest.size:=by have:=I.out;omega
                  have hz: ∀ h:0<rest.size,((rest[0]'h).toNat:Int)=bt rest 0:=bt_at rest 0;have hc:=(blk_cell A.out 0).trans (rfl:_=some (Value.int .u64 (wd rest 0 0)));have hf:=blk_frozen A.out 0;have M:=wd_range rest 0 0 (by omega);have N:=bt_range rest 0;go_wp2;go_region;clear hc hf M N hz hd;rw [wd_or rest 0 0 72057594037927936 (bt rest 0) (by omega) rfl rfl];have bw6:=blk_drew (blk_put A.out 0 (.int .u64 (wd rest 0 1)) rfl);have B:=blk_drew (blk_far ae.out (p:=⟨gw,0,none⟩) (by simpa using fun e=>F.out.1 e.symm) (.int .u64 (wd rest 0 1)));have D:=blk_drew (blk_far L.out (p:=⟨gw,0,none⟩) (by simpa using fun e=>F.out.2.1 e.symm) (.int .u64 (wd rest 0 1)));have E:=below_drew1 (ac.out.setCell (p:=⟨gw,0,none⟩) F.out.2.2 (.int .u64 (wd rest 0 1)));generalize (World.setCell _ ⟨gw,0,none⟩ (.int .u64 (wd rest 0 1))).drew=w6 at bw6 B D E ⊢;have O:=Aside0.mk bw6;have R:=Aside0.mk B;have T:=Aside0.mk D;have U:=Aside0.mk E;clear bw6 B D E;go_wp2;go_roundg (17 - (0+1))
                  case measure=>omega
                  case rel=>exact⟨0+1,by omega,rfl,rfl,U,R,T,O⟩
                |1,_,X,A=>
                  have hd:decide ((1:Int)<((ln:Int)+8 - 1) / 8)=true:=dT (by omega);have hq:(1<(rest.size:Int))=True:=eq_true (by have:=I.out;omega);have hq':1<rest.size:=by have:=I.out;omega
                  have hz: ∀ h:1<rest.size,((rest[1]'h).toNat:Int)=bt rest 1:=bt_at rest 1;have hc:=(blk_cell A.out 0).trans (rfl:_=some (Value.int .u64 (wd rest 0 1)));have hf:=blk_frozen A.out 0;have M:=wd_range rest 0 1 (by omega);have N:=bt_range rest 1;go_wp2;go_region;clear hc hf M N hz hd;rw [wd_or rest 0 1 281474976710656 (bt rest 1) (by omega) rfl rfl];have bw6:=blk_drew (blk_put A.out 0 (.int .u64 (wd rest 0 2)) rfl);have B:=blk_drew (blk_far ae.out (p:=⟨gw,0,none⟩) (by simpa using fun e=>F.out.1 e.symm) (.int .u64 (wd rest 0 2)));have D:=blk_drew (blk_far L.out (p:=⟨gw,0,none⟩) (by simpa using fun e=>F.out.2.1 e.symm) (.int .u64 (wd rest 0 2)));have E:=below_drew1 (ac.out.setCell (p:=⟨gw,0,none⟩) F.out.2.2 (.int .u64 (wd rest 0 2)));generalize (World.setCell _ ⟨gw,0,none⟩ (.int .u64 (wd rest 0 2))).drew=w6 at bw6 B D E ⊢;have O:=Aside0.mk bw6;have R:=Aside0.mk B;have T:=Aside0.mk D;have U:=Aside0.mk E;clear bw6 B D E;go_wp2;go_roundg (17 - (1+1))
                  case measure=>omega
                  case rel=>exact⟨1+1,by omega,rfl,rfl,U,R,T,O⟩
                |2,_,X,A=>
                  have hd:decide ((2:Int)<((ln:Int)+8 - 1) / 8)=true:=dT (by omega);have hq:(2<(rest.size:Int))=True:=eq_true (by have:=I.out;omega);have hq':2<rest.size:=by have:=I.out;omega
                  have hz: ∀ h:2<rest.size,((rest[2]'h).toNat:Int)=bt rest 2:=bt_at rest 2;have hc:=(blk_cell A.out 0).trans (rfl:_=some (Value.int .u64 (wd rest 0 2)));have hf:=blk_frozen A.out 0;have M:=wd_range rest 0 2 (by omega);have N:=bt_range rest 2;go_wp2;go_region;clear hc hf M N hz hd;rw [wd_or rest 0 2 1099511627776 (bt rest 2) (by omega) rfl rfl];have bw6:=blk_drew (blk_put A.out 0 (.int .u64 (wd rest 0 3)) rfl);have B:=blk_drew (blk_far ae.out (p:=⟨gw,0,none⟩) (by simpa using fun e=>F.out.1 e.symm) (.int .u64 (wd rest 0 3)));have D:=blk_drew (blk_far L.out (p:=⟨gw,0,none⟩) (by simpa using fun e=>F.out.2.1 e.symm) (.int .u64 (wd rest 0 3)));have E:=below_drew1 (ac.out.setCell (p:=⟨gw,0,none⟩) F.out.2.2 (.int .u64 (wd rest 0 3)));generalize (World.setCell _ ⟨gw,0,none⟩ (.int .u64 (wd rest 0 3))).drew=w6 at bw6 B D E ⊢;have O:=Aside0.mk bw6;have R:=Aside0.mk B;have T:=Aside0.mk D;have U:=Aside0.mk E;clear bw6 B D E;go_wp2;go_roundg (17 - (2+1))
                  case measure=>omega
                  case rel=>exact⟨2+1,by omega,rfl,rfl,U,R,T,O⟩
                |3,_,X,A=>
                  have hd:decide ((3:Int)<((ln:Int)+8 - 1) / 8)=true:=dT (by omega);have hq:(3<(rest.size:Int))=True:=eq_true (by have:=I.out;omega);have hq':3<rest.size:=by have:=I.out;omega
                  have hz: ∀ h:3<rest.size,((rest[3]'h).toNat:Int)=bt rest 3:=bt_at rest 3;have hc:=(blk_cell A.out 0).trans (rfl:_=some (Value.int .u64 (wd rest 0 3)));have hf:=blk_frozen A.out 0;have M:=wd_range rest 0 3 (by omega);have N:=bt_range rest 3;go_wp2;go_region;clear hc hf M N hz hd;rw [wd_or rest 0 3 4294967296 (bt rest 3) (by omega) rfl rfl];have bw6:=blk_drew (blk_put A.out 0 (.int .u64 (wd rest 0 4)) rfl);have B:=blk_drew (blk_far ae.out (p:=⟨gw,0,none⟩) (by simpa using fun e=>F.out.1 e.symm) (.int .u64 (wd rest 0 4)));have D:=blk_drew (blk_far L.out (p:=⟨gw,0,none⟩) (by simpa using fun e=>F.out.2.1 e.symm) (.int .u64 (wd rest 0 4)));have E:=below_drew1 (ac.out.setCell (p:=⟨gw,0,none⟩) F.out.2.2 (.int .u64 (wd rest 0 4)));generalize (World.setCell _ ⟨gw,0,none⟩ (.int .u64 (wd rest 0 4))).drew=w6 at bw6 B D E ⊢;have O:=Aside0.mk bw6;have R:=Aside0.mk B;have T:=Aside0.mk D;have U:=Aside0.mk E;clear bw6 B D E;go_wp2;go_roundg (17 - (3+1))
                  case measure=>omega
                  case rel=>exact⟨3+1,by omega,rfl,rfl,U,R,T,O⟩
                |4,_,X,A=>
                  have hd:decide ((4:Int)<((ln:Int)+8 - 1) / 8)=true:=dT (by omega);have hq:(4<(rest.size:Int))=True:=eq_true (by have:=I.out;omega);have hq':4<rest.size:=by have:=I.out;omega
                  have hz: ∀ h:4<rest.size,((rest[4]'h).toNat:Int)=bt rest 4:=bt_at rest 4;have hc:=(blk_cell A.out 0).trans (rfl:_=some (Value.int .u64 (wd rest 0 4)));have hf:=blk_frozen A.out 0;have M:=wd_range rest 0 4 (by omega);have N:=bt_range rest 4;go_wp2;go_region;clear hc hf M N hz hd;rw [wd_or rest 0 4 16777216 (bt rest 4) (by omega) rfl rfl];have bw6:=blk_drew (blk_put A.out 0 (.int .u64 (wd rest 0 5)) rfl);have B:=blk_drew (blk_far ae.out (p:=⟨gw,0,none⟩) (by simpa using fun e=>F.out.1 e.symm) (.int .u64 (wd rest 0 5)));have D:=blk_drew (blk_far L.out (p:=⟨gw,0,none⟩) (by simpa using fun e=>F.out.2.1 e.symm) (.int .u64 (wd rest 0 5)));have E:=below_drew1 (ac.out.setCell (p:=⟨gw,0,none⟩) F.out.2.2 (.int .u64 (wd rest 0 5)));generalize (World.setCell _ ⟨gw,0,none⟩ (.int .u64 (wd rest 0 5))).drew=w6 at bw6 B D E ⊢;have O:=Aside0.mk bw6;have R:=Aside0.mk B;have T:=Aside0.mk D;have U:=Aside0.mk E;clear bw6 B D E;go_wp2;go_roundg (17 - (4+1))
                  case measure=>omega
                  case rel=>exact⟨4+1,by omega,rfl,rfl,U,R,T,O⟩
                |5,_,X,A=>
                  have hd:decide ((5:Int)<((ln:Int)+8 - 1) / 8)=true:=dT (by omega);have hq:(5<(rest.size:Int))=True:=eq_true (by have:=I.out;omega);have hq':5<rest.size:=by have:=I.out;omega
                  have hz: ∀ h:5<rest.size,((rest[5]'h).toNat:Int)=bt rest 5:=bt_at rest 5;have hc:=(blk_cell A.out 0).trans (rfl:_=some (Value.int .u64 (wd rest 0 5)));have hf:=blk_frozen A.out 0;have M:=wd_range rest 0 5 (by omega);have N:=bt_range rest 5;go_wp2;go_region;clear hc hf M N hz hd;rw [wd_or rest 0 5 65536 (bt rest 5) (by omega) rfl rfl];have bw6:=blk_drew (blk_put A.out 0 (.int .u64 (wd rest 0 6)) rfl);have B:=blk_drew (blk_far ae.out (p:=⟨gw,0,none⟩) (by simpa using fun e=>F.out.1 e.symm) (.int .u64 (wd rest 0 6)));have D:=blk_drew (blk_far L.out (p:=⟨gw,0,none⟩) (by simpa using fun e=>F.out.2.1 e.symm) (.int .u64 (wd rest 0 6)));have E:=below_drew1 (ac.out.setCell (p:=⟨gw,0,none⟩) F.out.2.2 (.int .u64 (wd rest 0 6)));generalize (World.setCell _ ⟨gw,0,none⟩ (.int .u64 (wd rest 0 6))).drew=w6 at bw6 B D E ⊢;have O:=Aside0.mk bw6;have R:=Aside0.mk B;have T:=Aside0.mk D;have U:=Aside0.mk E;clear bw6 B D E;go_wp2;go_roundg (17 - (5+1))
                  case measure=>omega
                  case rel=>exact⟨5+1,by omega,rfl,rfl,U,R,T,O⟩
                |6,_,X,A=>
                  have hd:decide ((6:Int)<((ln:Int)+8 - 1) / 8)=true:=dT (by omega);have hq:(6<(rest.size:Int))=True:=eq_true (by have:=I.out;omega);have hq':6<rest.size:=by have:=I.out;omega
                  have hz: ∀ h:6<rest.size,((rest[6]'h).toNat:Int)=bt rest 6:=bt_at rest 6;have hc:=(blk_cell A.out 0).trans (rfl:_=some (Value.int .u64 (wd rest 0 6)));have hf:=blk_frozen A.out 0;have M:=wd_range rest 0 6 (by omega);have N:=bt_range rest 6;go_wp2;go_region;clear hc hf M N hz hd;rw [wd_or rest 0 6 256 (bt rest 6) (by omega) rfl rfl];have bw6:=blk_drew (blk_put A.out 0 (.int .u64 (wd rest 0 7)) rfl);have B:=blk_drew (blk_far ae.out (p:=⟨gw,0,none⟩) (by simpa using fun e=>F.out.1 e.symm) (.int .u64 (wd rest 0 7)));have D:=blk_drew (blk_far L.out (p:=⟨gw,0,none⟩) (by simpa using fun e=>F.out.2.1 e.symm) (.int .u64 (wd rest 0 7)));have E:=below_drew1 (ac.out.setCell (p:=⟨gw,0,none⟩) F.out.2.2 (.int .u64 (wd rest 0 7)));generalize (World.setCell _ ⟨gw,0,none⟩ (.int .u64 (wd rest 0 7))).drew=w6 at bw6 B D E ⊢;have O:=Aside0.mk bw6;have R:=Aside0.mk B;have T:=Aside0.mk D;have U:=Aside0.mk E;clear bw6 B D E;go_wp2;go_roundg (17 - (6+1))
                  case measure=>omega
                  case rel=>exact⟨6+1,by omega,rfl,rfl,U,R,T,O⟩
                |7,_,X,A=>
                  have hd:decide ((7:Int)<((ln:Int)+8 - 1) / 8)=true:=dT (by omega);have hq:(7<(rest.size:Int))=True:=eq_true (by have:=I.out;omega);have hq':7<rest.size:=by have:=I.out;omega
                  have hz: ∀ h:7<rest.size,((rest[7]'h).toNat:Int)=bt rest 7:=bt_at rest 7;have hc:=(blk_cell A.out 0).trans (rfl:_=some (Value.int .u64 (wd rest 0 7)));have hf:=blk_frozen A.out 0;have M:=wd_range rest 0 7 (by omega);have N:=bt_range rest 7;go_wp2;go_region;clear hc hf M N hz hd;rw [wd_or7 rest 0 (bt rest 7) rfl];have bw6:=blk_drew (blk_put A.out 0 (.int .u64 (wd rest 0 8)) rfl);have B:=blk_drew (blk_far ae.out (p:=⟨gw,0,none⟩) (by simpa using fun e=>F.out.1 e.symm) (.int .u64 (wd rest 0 8)));have D:=blk_drew (blk_far L.out (p:=⟨gw,0,none⟩) (by simpa using fun e=>F.out.2.1 e.symm) (.int .u64 (wd rest 0 8)));have E:=below_drew1 (ac.out.setCell (p:=⟨gw,0,none⟩) F.out.2.2 (.int .u64 (wd rest 0 8)));generalize (World.setCell _ ⟨gw,0,none⟩ (.int .u64 (wd rest 0 8))).drew=w6 at bw6 B D E ⊢;have O:=Aside0.mk bw6;have R:=Aside0.mk B;have T:=Aside0.mk D;have U:=Aside0.mk E;clear bw6 B D E;go_wp2;go_roundg (17 - (7+1))
                  case measure=>omega
                  case rel=>exact⟨7+1,by omega,rfl,rfl,U,R,T,O⟩
                |8,_,X,A=>
                  have hd:decide ((8:Int)<((ln:Int)+8 - 1) / 8)=true:=dT (by omega);have hq:(8<(rest.size:Int))=True:=eq_true (by have:=I.out;omega);have hq':8<rest.size:=by have:=I.out;omega
                  have hz: ∀ h:8<rest.size,((rest[8]'h).toNat:Int)=bt rest 8:=bt_at rest 8;have hc:=(blk_cell A.out 1).trans (rfl:_=some (Value.int .u64 (wd rest 8 0)));have hf:=blk_frozen A.out 1;have M:=wd_range rest 8 0 (by omega);have N:=bt_range rest 8;go_wp2;go_region;clear hc hf M N hz hd;rw [wd_or rest 8 0 72057594037927936 (bt rest 8) (by omega) rfl rfl];have bw6:=blk_drew (blk_put A.out 1 (.int .u64 (wd rest 8 1)) rfl);have B:=blk_drew (blk_far ae.out (p:=⟨gw,1,none⟩) (by simpa using fun e=>F.out.1 e.symm) (.int .u64 (wd rest 8 1)));have D:=blk_drew (blk_far L.out (p:=⟨gw,1,none⟩) (by simpa using fun e=>F.out.2.1 e.symm) (.int .u64 (wd rest 8 1)));have E:=below_drew1 (ac.out.setCell (p:=⟨gw,1,none⟩) F.out.2.2 (.int .u64 (wd rest 8 1)));generalize (World.setCell _ ⟨gw,1,none⟩ (.int .u64 (wd rest 8 1))).drew=w6 at bw6 B D E ⊢;have O:=Aside0.mk bw6;have R:=Aside0.mk B;have T:=Aside0.mk D;have U:=Aside0.mk E;clear bw6 B D E;go_wp2;go_roundg (17 - (8+1))
                  case measure=>omega
                  case rel=>exact⟨8+1,by omega,rfl,rfl,U,R,T,O⟩
                |9,_,X,A=>
                  have hd:decide ((9:Int)<((ln:Int)+8 - 1) / 8)=true:=dT (by omega);have hq:(9<(rest.size:Int))=True:=eq_true (by have:=I.out;omega);have hq':9<rest.size:=by have:=I.out;omega
                  have hz: ∀ h:9<rest.size,((rest[9]'h).toNat:Int)=bt rest 9:=bt_at rest 9;have hc:=(blk_cell A.out 1).trans (rfl:_=some (Value.int .u64 (wd rest 8 1)));have hf:=blk_frozen A.out 1;have M:=wd_range rest 8 1 (by omega);have N:=bt_range rest 9;go_wp2;go_region;clear hc hf M N hz hd;rw [wd_or rest 8 1 281474976710656 (bt rest 9) (by omega) rfl rfl];have bw6:=blk_drew (blk_put A.out 1 (.int .u64 (wd rest 8 2)) rfl);have B:=blk_drew (blk_far ae.out (p:=⟨gw,1,none⟩) (by simpa using fun e=>F.out.1 e.symm) (.int .u64 (wd rest 8 2)));have D:=blk_drew (blk_far L.out (p:=⟨gw,1,none⟩) (by simpa using fun e=>F.out.2.1 e.symm) (.int .u64 (wd rest 8 2)));have E:=below_drew1 (ac.out.setCell (p:=⟨gw,1,none⟩) F.out.2.2 (.int .u64 (wd rest 8 2)));generalize (World.setCell _ ⟨gw,1,none⟩ (.int .u64 (wd rest 8 2))).drew=w6 at bw6 B D E ⊢;have O:=Aside0.mk bw6;have R:=Aside0.mk B;have T:=Aside0.mk D;have U:=Aside0.mk E;clear bw6 B D E;go_wp2;go_roundg (17 - (9+1))
                  case measure=>omega
                  case rel=>exact⟨9+1,by omega,rfl,rfl,U,R,T,O⟩
                |10,_,X,A=>
                  have hd:decide ((10:Int)<((ln:Int)+8 - 1) / 8)=true:=dT (by omega);have hq:(10<(rest.size:Int))=True:=eq_true (by have:=I.out;omega);have hq':10<rest.size:=by have:=I.out;omega
                  have hz: ∀ h:10<rest.size,((rest[10]'h).toNat:Int)=bt rest 10:=bt_at rest 10;have hc:=(blk_cell A.out 1).trans (rfl:_=some (Value.int .u64 (wd rest 8 2)));have hf:=blk_frozen A.out 1;have M:=wd_range rest 8 2 (by omega);have N:=bt_range rest 10;go_wp2;go_region;clear hc hf M N hz hd;rw [wd_or rest 8 2 1099511627776 (bt rest 10) (by omega) rfl rfl];have bw6:=blk_drew (blk_put A.out 1 (.int .u64 (wd rest 8 3)) rfl);have B:=blk_drew (blk_far ae.out (p:=⟨gw,1,none⟩) (by simpa using fun e=>F.out.1 e.symm) (.int .u64 (wd rest 8 3)));have D:=blk_drew (blk_far L.out (p:=⟨gw,1,none⟩) (by simpa using fun e=>F.out.2.1 e.symm) (.int .u64 (wd rest 8 3)));have E:=below_drew1 (ac.out.setCell (p:=⟨gw,1,none⟩) F.out.2.2 (.int .u64 (wd rest 8 3)));generalize (World.setCell _ ⟨gw,1,none⟩ (.int .u64 (wd rest 8 3))).drew=w6 at bw6 B D E ⊢;have O:=Aside0.mk bw6;have R:=Aside0.mk B;have T:=Aside0.mk D;have U:=Aside0.mk E;clear bw6 B D E;go_wp2;go_roundg (17 - (10+1))
                  case measure=>omega
                  case rel=>exact⟨10+1,by omega,rfl,rfl,U,R,T,O⟩
                |11,_,X,A=>
                  have hd:decide ((11:Int)<((ln:Int)+8 - 1) / 8)=true:=dT (by omega);have hq:(11<(rest.size:Int))=True:=eq_true (by have:=I.out;omega);have hq':11<rest.size:=by have:=I.out;omega
                  have hz: ∀ h:11<rest.size,((rest[11]'h).toNat:Int)=bt rest 11:=bt_at rest 11;have hc:=(blk_cell A.out 1).trans (rfl:_=some (Value.int .u64 (wd rest 8 3)));have hf:=blk_frozen A.out 1;have M:=wd_range rest 8 3 (by omega);have N:=bt_range rest 11;go_wp2;go_region;clear hc hf M N hz hd;rw [wd_or rest 8 3 4294967296 (bt rest 11) (by omega) rfl rfl];have bw6:=blk_drew (blk_put A.out 1 (.int .u64 (wd rest 8 4)) rfl);have B:=blk_drew (blk_far ae.out (p:=⟨gw,1,none⟩) (by simpa using fun e=>F.out.1 e.symm) (.int .u64 (wd rest 8 4)));have D:=blk_drew (blk_far L.out (p:=⟨gw,1,none⟩) (by simpa using fun e=>F.out.2.1 e.symm) (.int .u64 (wd rest 8 4)));have E:=below_drew1 (ac.out.setCell (p:=⟨gw,1,none⟩) F.out.2.2 (.int .u64 (wd rest 8 4)));generalize (World.setCell _ ⟨gw,1,none⟩ (.int .u64 (wd rest 8 4))).drew=w6 at bw6 B D E ⊢;have O:=Aside0.mk bw6;have R:=Aside0.mk B;have T:=Aside0.mk D;have U:=Aside0.mk E;clear bw6 B D E;go_wp2;go_roundg (17 - (11+1))
                  case measure=>omega
                  case rel=>exact⟨11+1,by omega,rfl,rfl,U,R,T,O⟩
                |12,_,X,A=>
                  have hd:decide ((12:Int)<((ln:Int)+8 - 1) / 8)=true:=dT (by omega);have hq:(12<(rest.size:Int))=True:=eq_true (by have:=I.out;omega);have hq':12<rest.size:=by have:=I.out;omega
                  have hz: ∀ h:12<rest.size,((rest[12]'h).toNat:Int)=bt rest 12:=bt_at rest 12;have hc:=(blk_cell A.out 1).trans (rfl:_=some (Value.int .u64 (wd rest 8 4)));have hf:=blk_frozen A.out 1;have M:=wd_range rest 8 4 (by omega);have N:=bt_range rest 12;go_wp2;go_region;clear hc hf M N hz hd;rw [wd_or rest 8 4 16777216 (bt rest 12) (by omega) rfl rfl];have bw6:=blk_drew (blk_put A.out 1 (.int .u64 (wd rest 8 5)) rfl);have B:=blk_drew (blk_far ae.out (p:=⟨gw,1,none⟩) (by simpa using fun e=>F.out.1 e.symm) (.int .u64 (wd rest 8 5)));have D:=blk_drew (blk_far L.out (p:=⟨gw,1,none⟩) (by simpa using fun e=>F.out.2.1 e.symm) (.int .u64 (wd rest 8 5)));have E:=below_drew1 (ac.out.setCell (p:=⟨gw,1,none⟩) F.out.2.2 (.int .u64 (wd rest 8 5)));generalize (World.setCell _ ⟨gw,1,none⟩ (.int .u64 (wd rest 8 5))).drew=w6 at bw6 B D E ⊢;have O:=Aside0.mk bw6;have R:=Aside0.mk B;have T:=Aside0.mk D;have U:=Aside0.mk E;clear bw6 B D E;go_wp2;go_roundg (17 - (12+1))
                  case measure=>omega
                  case rel=>exact⟨12+1,by omega,rfl,rfl,U,R,T,O⟩
                |13,_,X,A=>
                  have hd:decide ((13:Int)<((ln:Int)+8 - 1) / 8)=true:=dT (by omega);have hq:(13<(rest.size:Int))=True:=eq_true (by have:=I.out;omega);have hq':13<rest.size:=by have:=I.out;omega
                  have hz: ∀ h:13<rest.size,((rest[13]'h).toNat:Int)=bt rest 13:=bt_at rest 13;have hc:=(blk_cell A.out 1).trans (rfl:_=some (Value.int .u64 (wd rest 8 5)));have hf:=blk_frozen A.out 1;have M:=wd_range rest 8 5 (by omega);have N:=bt_range rest 13;go_wp2;go_region;clear hc hf M N hz hd;rw [wd_or rest 8 5 65536 (bt rest 13) (by omega) rfl rfl];have bw6:=blk_drew (blk_put A.out 1 (.int .u64 (wd rest 8 6)) rfl);have B:=blk_drew (blk_far ae.out (p:=⟨gw,1,none⟩) (by simpa using fun e=>F.out.1 e.symm) (.int .u64 (wd rest 8 6)));have D:=blk_drew (blk_far L.out (p:=⟨gw,1,none⟩) (by simpa using fun e=>F.out.2.1 e.symm) (.int .u64 (wd rest 8 6)));have E:=below_drew1 (ac.out.setCell (p:=⟨gw,1,none⟩) F.out.2.2 (.int .u64 (wd rest 8 6)));generalize (World.setCell _ ⟨gw,1,none⟩ (.int .u64 (wd rest 8 6))).drew=w6 at bw6 B D E ⊢;have O:=Aside0.mk bw6;have R:=Aside0.mk B;have T:=Aside0.mk D;have U:=Aside0.mk E;clear bw6 B D E;go_wp2;go_roundg (17 - (13+1))
                  case measure=>omega
                  case rel=>exact⟨13+1,by omega,rfl,rfl,U,R,T,O⟩
                |14,_,X,A=>
                  have hd:decide ((14:Int)<((ln:Int)+8 - 1) / 8)=true:=dT (by omega);have hq:(14<(rest.size:Int))=True:=eq_true (by have:=I.out;omega);have hq':14<rest.size:=by have:=I.out;omega
                  have hz: ∀ h:14<rest.size,((rest[14]'h).toNat:Int)=bt rest 14:=bt_at rest 14;have hc:=(blk_cell A.out 1).trans (rfl:_=some (Value.int .u64 (wd rest 8 6)));have hf:=blk_frozen A.out 1;have M:=wd_range rest 8 6 (by omega);have N:=bt_range rest 14;go_wp2;go_region;clear hc hf M N hz hd;rw [wd_or rest 8 6 256 (bt rest 14) (by omega) rfl rfl];have bw6:=blk_drew (blk_put A.out 1 (.int .u64 (wd rest 8 7)) rfl);have B:=blk_drew (blk_far ae.out (p:=⟨gw,1,none⟩) (by simpa using fun e=>F.out.1 e.symm) (.int .u64 (wd rest 8 7)));have D:=blk_drew (blk_far L.out (p:=⟨gw,1,none⟩) (by simpa using fun e=>F.out.2.1 e.symm) (.int .u64 (wd rest 8 7)));have E:=below_drew1 (ac.out.setCell (p:=⟨gw,1,none⟩) F.out.2.2 (.int .u64 (wd rest 8 7)));generalize (World.setCell _ ⟨gw,1,none⟩ (.int .u64 (wd rest 8 7))).drew=w6 at bw6 B D E ⊢;have O:=Aside0.mk bw6;have R:=Aside0.mk B;have T:=Aside0.mk D;have U:=Aside0.mk E;clear bw6 B D E;go_wp2;go_roundg (17 - (14+1))
                  case measure=>omega
                  case rel=>exact⟨14+1,by omega,rfl,rfl,U,R,T,O⟩
                |15,_,X,A=>
                  have hd:decide ((15:Int)<((ln:Int)+8 - 1) / 8)=true:=dT (by omega);have hq:(15<(rest.size:Int))=True:=eq_true (by have:=I.out;omega);have hq':15<rest.size:=by have:=I.out;omega
                  have hz: ∀ h:15<rest.size,((rest[15]'h).toNat:Int)=bt rest 15:=bt_at rest 15;have hc:=(blk_cell A.out 1).trans (rfl:_=some (Value.int .u64 (wd rest 8 7)));have hf:=blk_frozen A.out 1;have M:=wd_range rest 8 7 (by omega);have N:=bt_range rest 15;go_wp2;go_region;clear hc hf M N hz hd;rw [wd_or7 rest 8 (bt rest 15) rfl];have bw6:=blk_drew (blk_put A.out 1 (.int .u64 (wd rest 8 8)) rfl);have B:=blk_drew (blk_far ae.out (p:=⟨gw,1,none⟩) (by simpa using fun e=>F.out.1 e.symm) (.int .u64 (wd rest 8 8)));have D:=blk_drew (blk_far L.out (p:=⟨gw,1,none⟩) (by simpa using fun e=>F.out.2.1 e.symm) (.int .u64 (wd rest 8 8)));have E:=below_drew1 (ac.out.setCell (p:=⟨gw,1,none⟩) F.out.2.2 (.int .u64 (wd rest 8 8)));generalize (World.setCell _ ⟨gw,1,none⟩ (.int .u64 (wd rest 8 8))).drew=w6 at bw6 B D E ⊢;have O:=Aside0.mk bw6;have R:=Aside0.mk B;have T:=Aside0.mk D;have U:=Aside0.mk E;clear bw6 B D E;go_wp2;go_roundg (17 - (15+1))
                  case measure=>omega
                  case rel=>exact⟨15+1,by omega,rfl,rfl,U,R,T,O⟩
                |n+16,_,X,_=>exact absurd X (by have:=bb.out;omega)
              · have hd:decide ((i:Int)<((ln:Int)+8 - 1) / 8)=false:=dF (by omega);obtain rfl:i=(ln+7) / 8:=by omega
                have bw6:=A.out
                skip
                skip
                have bl:=(blk_cell bw6 0).trans (rfl:_=some (Value.int .u64 (wd rest 0 (min 8 ((ln+7) / 8)))));have bm:=(blk_cell bw6 1).trans (rfl:_=some (Value.int .u64 (wd rest 8 ((ln+7) / 8 - 8))));have aj:=(blk_cell L.out 0).trans (rfl:_=some (Value.bool true));have b4:=(blk_cell L.out 1).trans (rfl:_=some (Value.int .u64 0));have b5:=(blk_cell L.out 2).trans (rfl:_=some (Value.int .u64 0));have al:=(blk_cell L.out 3).trans (rfl:_=some (Value.int .i64 ln));have av:=blk_frozen L.out 0;have aw:=blk_frozen L.out 1;have ax:=blk_frozen L.out 2;have ay:=blk_frozen L.out 3
                skip
                have b6:((World.setCell wr ⟨gp,1,none⟩ (.int .u64 (wd rest 0 (min 8 ((ln+7) / 8))))).setCell ⟨gp,2,none⟩ (.int .u64 (wd rest 8 ((ln+7) / 8 - 8)))).heap[gp]? =some (.cells #[.bool true,.int .u64 (wd rest 0 (min 8 ((ln+7) / 8))),.int .u64 (wd rest 8 ((ln+7) / 8 - 8)),.int .i64 ln] 30 (0,0)):=blk_put (blk_put L.out 1 (.int .u64 (wd rest 0 (min 8 ((ln+7) / 8)))) rfl) 2 (.int .u64 (wd rest 8 ((ln+7) / 8 - 8))) rfl;have aQ:w.heap.size≤gp:=by have:=ah.out;have:=ar.out;omega
                have b7:((World.setCell wr ⟨gp,1,none⟩ (.int .u64 (wd rest 0 (min 8 ((ln+7) / 8))))).setCell ⟨gp,2,none⟩ (.int .u64 (wd rest 8 ((ln+7) / 8 - 8)))).heap[gr]? =some (.cells #[.bool false,.int .u64 0,.int .u64 0,.int .i64 0] 30 (0,0)):=blk_far (blk_far ae.out (p:=⟨gp,1,none⟩) (by have:=ah.out;simp;omega) (.int .u64 (wd rest 0 (min 8 ((ln+7) / 8))))) (p:=⟨gp,2,none⟩) (by have:=ah.out;simp;omega) (.int .u64 (wd rest 8 ((ln+7) / 8 - 8)));have b8:Below w.heap.size w ((World.setCell wr ⟨gp,1,none⟩ (.int .u64 (wd rest 0 (min 8 ((ln+7) / 8))))).setCell ⟨gp,2,none⟩ (.int .u64 (wd rest 8 ((ln+7) / 8 - 8)))):=(ac.out.setCell (p:=⟨gp,1,none⟩) aQ (.int .u64 (wd rest 0 (min 8 ((ln+7) / 8))))).setCell (p:=⟨gp,2,none⟩) aQ (.int .u64 (wd rest 8 ((ln+7) / 8 - 8)));have am:=Aside0.mk b6;have bn:=Aside0.mk b7;have bo:=Aside0.mk b8;clear b6 b7 b8;have bq:=(blk_cell am.out 0).trans (rfl:_=some (Value.bool true));have br:=(blk_cell am.out 1).trans (rfl:_=some (Value.int .u64 (wd rest 0 (min 8 ((ln+7) / 8)))));have bu:=(blk_cell am.out 2).trans (rfl:_=some (Value.int .u64 (wd rest 8 ((ln+7) / 8 - 8))));have bv:=(blk_cell am.out 3).trans (rfl:_=some (Value.int .i64 ln));go_wp2_with (fail);refine (addr_Check.calls k true (wd rest 0 (min 8 ((ln+7) / 8))) (wd rest 8 ((ln+7) / 8 - 8)) ln c _ (by simpa using C.out)).mono ?_
                rintro e w8 ⟨rfl,hb⟩
                have az:=Aside0.mk (blk_below am.out hb);have af:=Aside0.mk (blk_below bn.out hb);have b9:=Aside0.mk (below_step bo.out hb);clear hb bq br bu bv bl bm aj b4 b5 al av aw ax ay;have aW:=(blk_cell af.out 0).trans rfl;have aY:=(blk_cell af.out 1).trans rfl;have aZ:=(blk_cell af.out 2).trans rfl;have b2:=(blk_cell af.out 3).trans rfl;have av:=blk_frozen af.out 0;have aw:=blk_frozen af.out 1;have ax:=blk_frozen af.out 2;have ay:=blk_frozen af.out 3;have V:w.heap.size≤gr:=by have:=ar.out;omega
                by_cases hc:c=0
                · subst hc;have h:=H.out;rw [if_pos rfl]at h;simp only[Option.some.injEq,Prod.mk.injEq]at h;obtain⟨rfl,rfl,rfl,rfl,rfl,rfl⟩:=h;have aj:=(blk_cell az.out 0).trans (rfl:_=some (Value.bool true));have b4:=(blk_cell az.out 1).trans (rfl:_=some (Value.int .u64 (wd rest 0 (min 8 ((ln+7) / 8)))));have b5:=(blk_cell az.out 2).trans (rfl:_=some (Value.int .u64 (wd rest 8 ((ln+7) / 8 - 8))));have al:=(blk_cell az.out 3).trans (rfl:_=some (Value.int .i64 ln));obtain⟨n,ba⟩: ∃ n:Nat,(((ln:Int)+8 - 1) / 8)=(n:Int):=⟨(ln+7) / 8,by omega⟩;have HN:Aside0 (n=(ln+7) / 8):=⟨by omega⟩;have bE:n≤rest.size:=by have:=I.out;have:=HN.out;omega
                  have bF:(0≤(n:Int))=True:=eq_true (by omega);rw [ba];clear ba;go_wp2;go_region;go_wp2;obtain rfl:=HN.out;refine bodyPost_ret (results_ctt rfl _ _ gr 30 #[.bool true,.int .u64 (wd rest 0 (min 8 ((ln+7) / 8))),.int .u64 (wd rest 8 ((ln+7) / 8 - 8)),.int .i64 ln] (0,0) _ rfl (blk_put (blk_put (blk_put (blk_put af.out 0 (.bool true) rfl) 1 (.int .u64 (wd rest 0 (min 8 ((ln+7) / 8)))) rfl) 2 (.int .u64 (wd rest 8 ((ln+7) / 8 - 8))) rfl) 3 (.int .i64 ln) rfl) Try.underlying30 rfl (by kernel_rfl)) rfl ?_;exact⟨rfl,below_drew1 ((((b9.out.setCell (p:=⟨gr,0,none⟩) V _).setCell (p:=⟨gr,1,none⟩) V _).setCell (p:=⟨gr,2,none⟩) V _).setCell (p:=⟨gr,3,none⟩) V _)⟩
                ·have h:=H.out;rw [if_neg hc]at h;have bG:(c !=0)=true:=bne_iff_ne.mpr hc;simp only[pfx_none,Option.some.injEq,Prod.mk.injEq]at h;obtain⟨rfl,rfl,rfl,rfl,rfl,rfl⟩:=h;go_wp2;refine bodyPost_ret (results_ctt rfl _ _ gr 30 #[.bool false,.int .u64 0,.int .u64 0,.int .i64 0] (0,0) _ rfl (blk_put (blk_put (blk_put (blk_put af.out 0 (.bool false) rfl) 1 (.int .u64 0) rfl) 2 (.int .u64 0) rfl) 3 (.int .i64 0) rfl) Try.underlying30 rfl (by kernel_rfl)) rfl ?_;exact⟨rfl,(((b9.out.setCell (p:=⟨gr,0,none⟩) V _).setCell (p:=⟨gr,1,none⟩) V _).setCell (p:=⟨gr,2,none⟩) V _).setCell (p:=⟨gr,3,none⟩) V _⟩
      ·rw [if_neg c2']at h;simp only[pfx_none,Option.some.injEq,Prod.mk.injEq]at h;obtain⟨rfl,rfl,rfl,rfl,rfl,rfl⟩:=h;have bz:(bt a0 0 !=4)=true:=bne_iff_ne.mpr c2;have bH:(bt a0 0 !=6)=true:=bne_iff_ne.mpr c2';go_enter Try.func36,Try.ntmps36;go_wp2;refine bodyPost_ret (results_ctt rfl _ _ w.heap.size 30 #[.bool false,.int .u64 0,.int .u64 0,.int .i64 0] (0,0) _ rfl (heap_alloc_new _ _) Try.underlying30 rfl (by kernel_rfl)) rfl ?_;exact⟨rfl,below_alloc (Below.refl _ _) _⟩
def IsS85 (w0 W:World) (g:Nat) (f0:ByteArray) (f1:Int):Prop:=W.heap[g]? =some (.cells #[.string f0,.int .i64 f1] 85 (0,0))∧w0.heap.size≤g
theorem IsS85.grown {w0 W:World}{g:Nat}{f0:ByteArray}{f1:Int}{W1:World}{row:Option Nat} (h:IsS85 w0 W g f0 f1) (hw:W.grownBy W1 row) (aa:some g≠row):IsS85 w0 W1 g f0 f1:=by
  obtain⟨hb,hg⟩:=h;exact⟨blk_grown hb hw aa,hg⟩
theorem IsS85.kept {w0 W:World}{g:Nat}{f0:ByteArray}{f1:Int}{W1:World}{S:Nat→Prop} (h:IsS85 w0 W g f0 f1) (hk:Kept W W1 S) (aa: ¬ S g):IsS85 w0 W1 g f0 f1:=by
  obtain⟨hb,hg⟩:=h;exact⟨blk_kept hb hk aa,hg⟩
theorem IsS85.below {w0 W:World}{g:Nat}{f0:ByteArray}{f1:Int}{W1:World} (h:IsS85 w0 W g f0 f1) (hw:Below W.heap.size W W1):IsS85 w0 W1 g f0 f1:=h.grown (grown_of_below hw none) (by simp)
theorem IsS85.alloc {w0 W:World}{g:Nat}{f0:ByteArray}{f1:Int} (h:IsS85 w0 W g f0 f1) (o:Obj):IsS85 w0 (W.alloc o) g f0 f1:=h.below (below_alloc (Below.refl _ _) o)
theorem IsS85.drewN {w0 W:World}{g:Nat}{f0:ByteArray}{f1:Int} (h:IsS85 w0 W g f0 f1) (m:Nat):IsS85 w0 (W.drewN m) g f0 f1:=h
theorem IsS85.drew {w0 W:World}{g:Nat}{f0:ByteArray}{f1:Int} (h:IsS85 w0 W g f0 f1):IsS85 w0 W.drew g f0 f1:=h
theorem IsS85.at_ {w0 W:World}{g:Nat}{f0:ByteArray}{f1:Int}{w':World}{m:Nat} (hq:W.drewN m=w') (h:IsS85 w0 W g f0 f1):IsS85 w0 w' g f0 f1:=by subst hq;exact IsS85.drewN h m
theorem IsS85.apart {w0 W:World}{g:Nat}{f0:ByteArray}{f1:Int}{α:Type}{d:Kd α}{e:Nat}{base:Nat}{ok:Nat→Prop}{v:Value}{xs:List α} (h:IsS85 w0 W g f0 f1) (ho:d.R e W base ok v xs) (ht: ∀ q,q∈e :: d.E→q≠85):d.R e W base (fun k=>ok k∧k≠g) v xs:=by
  obtain⟨hb,hg⟩:=h;exact Kd.R_types ho hb ht
theorem IsS85.own_ne {w0 W:World}{g:Nat}{f0:ByteArray}{f1:Int}{α:Type}{d:Kd α}{e:Nat}{base:Nat}{ok:Nat→Prop}{v:Value}{xs:List α} (h:IsS85 w0 W g f0 f1) (ho:d.R e W base ok v xs) (ht:e≠85):some g≠v.ownBlock:=by
  obtain⟨hb,hg⟩:=h;exact Kd.R_ne ho hb ht
theorem IsS85.lt {w0 W:World}{g:Nat}{f0:ByteArray}{f1:Int} (h:IsS85 w0 W g f0 f1):g<W.heap.size:=by
  obtain⟨hb,hg⟩:=h;exact blk_lt hb
theorem IsS85.ge {w0 W:World}{g:Nat}{f0:ByteArray}{f1:Int} (h:IsS85 w0 W g f0 f1):w0.heap.size≤g:=by
  obtain⟨hb,hg⟩:=h;exact hg
theorem IsS85.far {w0 W:World}{g:Nat}{f0:ByteArray}{f1:Int}{p:Addr} (h:IsS85 w0 W g f0 f1) (aa:g≠p.block) (u:Value):IsS85 w0 (W.setCell p u) g f0 f1:=by
  obtain⟨hb,hg⟩:=h;exact⟨blk_far hb aa u,hg⟩
theorem cellS85_0 {W:World}{g:Nat}{f0:ByteArray}{f1:Int} (h:W.heap[g]? =some (.cells #[.string f0,.int .i64 f1] 85 (0,0))):W.cell? ⟨g,0,none⟩=some (.string f0):=(blk_cell h 0).trans rfl
theorem IsS85.set_0 {w0 W:World}{g:Nat}{f0:ByteArray}{f1:Int} (h:IsS85 w0 W g f0 f1) (x:ByteArray):IsS85 w0 (W.setCell ⟨g,0,none⟩ (.string x)) g x f1:=by
  obtain⟨hb,hg⟩:=h;exact⟨by simpa using blk_set hb 0 (.string x),hg⟩
theorem cellS85_1 {W:World}{g:Nat}{f0:ByteArray}{f1:Int} (h:W.heap[g]? =some (.cells #[.string f0,.int .i64 f1] 85 (0,0))):W.cell? ⟨g,1,none⟩=some (.int .i64 f1):=(blk_cell h 1).trans rfl
theorem IsS85.set_1 {w0 W:World}{g:Nat}{f0:ByteArray}{f1:Int} (h:IsS85 w0 W g f0 f1) (x:Int):IsS85 w0 (W.setCell ⟨g,1,none⟩ (.int .i64 x)) g f0 x:=by
  obtain⟨hb,hg⟩:=h;exact⟨by simpa using blk_set hb 1 (.int .i64 x),hg⟩
theorem IsS85.new (w0 W:World) (f0:ByteArray) (f1:Int) (hB:Below w0.heap.size w0 W):IsS85 w0 (W.alloc (.cells #[.string f0,.int .i64 f1] 85)) W.heap.size f0 f1:=⟨by simpa using heap_alloc_new W _,hB.size⟩
def api_Prefix.f (k:Nat) (B:ByteArray) (A:Int):Option (Bool × Int × Int × Int × ByteArray × Int):=(msg_GetPrefix.f k B).bind fun t=>some (t.1,t.2.1,t.2.2.1,t.2.2.2.1,(if A=0 then t.2.2.2.2.1 else B),(if A=0 then t.2.2.2.2.2 else A))
theorem api_Prefix.mono: ∀ a0 a1 k,LeO (api_Prefix.f k a0 a1) (api_Prefix.f (k+1) a0 a1):=by
  intro a0 a1 k;unfold api_Prefix.f
  repeat' first
      | (with_reducible exact msg_GetPrefix.mono _ _)
      | (with_reducible exact LeO.refl _)
      | (with_reducible exact LeO.none _)
      | (with_reducible refine LeO.ite ?_ ?_)
      | (with_reducible refine LeO.bind ?_ (fun _ => ?_))
      | exact msg_GetPrefix.mono _ _
      | exact LeO.none _
      | refine LeO.ite ?_ ?_
      | refine LeO.bind ?_ (fun _ => ?_)
set_option maxHeartbeats 8000000 in
set_option maxRecDepth 100000 in
theorem api_Prefix.calls0 (k g:Nat) (s:ByteArray) (y:Int) (r1:Bool) (r2:Int) (r3:Int) (r4:Int) (r5:ByteArray) (r6:Int) (w0 w:World) (hI:IsS85 w0 w g s y) (hB:Below w0.heap.size w0 w) (h:msg_GetPrefix.f k s=some (r1,r2,r3,r4,r5,r6)):
    Calls Try.prog 35 #[.pointer (some ⟨g,0,none⟩),.func (.func 36) #[] #[]] w fun e w'=>e= .returned (.agg #[.bool r1,.int .u64 r2,.int .u64 r3,.int .i64 r4])∧IsS85 w0 w' g (if y=0 then r5 else s) (if y=0 then r6 else y)∧Below w0.heap.size w0 w'∧KeepBut w w' g none:=by
  have G:=Aside0.mk hI;have M:=Aside0.mk hB;have H:=Aside0.mk h;have I:=hI.1;have af:=cellS85_0 I;have ag:(w.alloc (.cells #[.bool false,.int .u64 0,.int .u64 0,.int .i64 0] 30)).cell? ⟨g,0,none⟩=some (.string s):=(blk_cell (blk_alloc I _) 0).trans rfl;have V:=Aside0.mk (blk_lt I);clear h hI hB I;go_enter Try.func35,Try.ntmps35;go_wp2_with (fail);refine (msg_GetPrefix.calls k s r1 r2 r3 r4 r5 r6 _ H.out).mono ?_
  rintro e w5 ⟨rfl,hb⟩
  have N:=Aside0.mk (blk_below (blk_alloc G.out.1 (.cells #[.bool false,.int .u64 0,.int .u64 0,.int .i64 0] 30)) hb);have X:=Aside0.mk (blk_below (heap_alloc_new w (.cells #[.bool false,.int .u64 0,.int .u64 0,.int .i64 0] 30)) hb);have ah:=Aside0.mk (below_step (below_alloc M.out (.cells #[.bool false,.int .u64 0,.int .u64 0,.int .i64 0] 30)) hb);have aj:=Aside0.mk (KeepBut.of_below (below_step (below_alloc (Below.refl w.heap.size w) (.cells #[.bool false,.int .u64 0,.int .u64 0,.int .i64 0] 30)) hb) g none);have aD:Aside0 (w.heap.size<w5.heap.size):=⟨Nat.lt_of_lt_of_le (blk_lt (heap_alloc_new w _)) hb.size⟩;clear hb af ag;obtain⟨gr,L⟩: ∃ gr,w.heap.size=gr:=⟨_,rfl⟩;have B:=Aside0.mk L;have BR5':=Aside0.mk (L▸X.out);rw [L];clear X L;have aa:=Aside0.mk (heap_alloc_new w5 (.cells #[.bool r1,.int .u64 r2,.int .u64 r3,.int .i64 r4] 30));have ab:=Aside0.mk (blk_alloc BR5'.out (.cells #[.bool r1,.int .u64 r2,.int .u64 r3,.int .i64 r4] 30));have F:=Aside0.mk (blk_alloc N.out (.cells #[.bool r1,.int .u64 r2,.int .u64 r3,.int .i64 r4] 30));have ac:=Aside0.mk (below_alloc ah.out (.cells #[.bool r1,.int .u64 r2,.int .u64 r3,.int .i64 r4] 30));have ae:=Aside0.mk (keep_alloc aj.out (.cells #[.bool r1,.int .u64 r2,.int .u64 r3,.int .i64 r4] 30));by_cases hy:y=0
  · subst hy;have C:g≠gr:=by have:=V.out;have:=B.out;omega
    have O:g≠w5.heap.size:=fun e=>by have:=blk_lt N.out;omega
    have aE:=(blk_cell F.out 0).trans rfl;have al:=(blk_cell F.out 1).trans rfl;have aG:=blk_frozen F.out 0;have aH:=blk_frozen F.out 1;have R:=Aside0.mk (blk_put (blk_put F.out 0 (.string r5) rfl) 1 (.int .i64 r6) rfl);have D:=Aside0.mk (blk_far (blk_far aa.out (p:=⟨g,0,none⟩) (by simpa using fun e=>O e.symm) (.string r5)) (p:=⟨g,1,none⟩) (by simpa using fun e=>O e.symm) (.int .i64 r6));have A:=Aside0.mk (blk_far (blk_far ab.out (p:=⟨g,0,none⟩) (by simpa using fun e=>C e.symm) (.string r5)) (p:=⟨g,1,none⟩) (by simpa using fun e=>C e.symm) (.int .i64 r6));have T:=Aside0.mk ((ac.out.setCell (p:=⟨g,0,none⟩) G.out.2 (.string r5)).setCell (p:=⟨g,1,none⟩) G.out.2 (.int .i64 r6));have U:=Aside0.mk ((ae.out.set_ 0 (.string r5)).set_ 1 (.int .i64 r6));have am:=(blk_cell D.out 0).trans (rfl:_=some (Value.bool r1));have ap:=(blk_cell D.out 1).trans (rfl:_=some (Value.int .u64 r2));have aq:=(blk_cell D.out 2).trans (rfl:_=some (Value.int .u64 r3));have ar:=(blk_cell D.out 3).trans (rfl:_=some (Value.int .i64 r4));have au:=(blk_cell A.out 0).trans (rfl:_=some (Value.bool false));have av:=(blk_cell A.out 1).trans (rfl:_=some (Value.int .u64 0));have aw:=(blk_cell A.out 2).trans (rfl:_=some (Value.int .u64 0));have ax:=(blk_cell A.out 3).trans (rfl:_=some (Value.int .i64 0));have ay:=blk_frozen A.out 0;have az:=blk_frozen A.out 1;have aA:=blk_frozen A.out 2;have aC:=blk_frozen A.out 3;go_wp2_with (fail);refine bodyPost_ret (results_cell_row rfl _ _ gr 30 #[.bool r1,.int .u64 r2,.int .u64 r3,.int .i64 r4] (0,0) _ rfl (blk_put (blk_put (blk_put (blk_put (A.out) 0 (.bool r1) rfl) 1 (.int .u64 r2) rfl) 2 (.int .u64 r3) rfl) 3 (.int .i64 r4) rfl) Try.underlying30 rfl (by kernel_rfl)) rfl ?_;have E:w0.heap.size≤gr:=by have:=B.out;have:=M.out.size;omega
    refine⟨rfl,⟨?_,G.out.2⟩,?_,?_⟩
    · simpa using blk_far (blk_far (blk_far (blk_far (R.out) (p:=⟨gr,0,none⟩) (by simpa using C) _) (p:=⟨gr,1,none⟩) (by simpa using C) _) (p:=⟨gr,2,none⟩) (by simpa using C) _) (p:=⟨gr,3,none⟩) (by simpa using C) _
    · exact ((((T.out).setCell (p:=⟨gr,0,none⟩) E _).setCell (p:=⟨gr,1,none⟩) E _).setCell (p:=⟨gr,2,none⟩) E _).setCell (p:=⟨gr,3,none⟩) E _
    · exact keep_far (keep_far (keep_far (keep_far (U.out) (p:=⟨gr,0,none⟩) (by have:=B.out;simp;omega) _) (p:=⟨gr,1,none⟩) (by have:=B.out;simp;omega) _) (p:=⟨gr,2,none⟩) (by have:=B.out;simp;omega) _) (p:=⟨gr,3,none⟩) (by have:=B.out;simp;omega) _
  · skip
    have C:g≠gr:=by have:=V.out;have:=B.out;omega
    have O:g≠w5.heap.size:=fun e=>by have:=blk_lt N.out;omega
    have R:=F;have D:=aa;have A:=ab;have T:=ac;have U:=ae;have al:=(blk_cell F.out 1).trans rfl;have aI:(y==0)=false:=beq_eq_false_iff_ne.mpr hy;have am:=(blk_cell D.out 0).trans (rfl:_=some (Value.bool r1));have ap:=(blk_cell D.out 1).trans (rfl:_=some (Value.int .u64 r2));have aq:=(blk_cell D.out 2).trans (rfl:_=some (Value.int .u64 r3));have ar:=(blk_cell D.out 3).trans (rfl:_=some (Value.int .i64 r4));have au:=(blk_cell A.out 0).trans (rfl:_=some (Value.bool false));have av:=(blk_cell A.out 1).trans (rfl:_=some (Value.int .u64 0));have aw:=(blk_cell A.out 2).trans (rfl:_=some (Value.int .u64 0));have ax:=(blk_cell A.out 3).trans (rfl:_=some (Value.int .i64 0));have ay:=blk_frozen A.out 0;have az:=blk_frozen A.out 1;have aA:=blk_frozen A.out 2;have aC:=blk_frozen A.out 3;go_wp2_with (fail);refine bodyPost_ret (results_cell_row rfl _ _ gr 30 #[.bool r1,.int .u64 r2,.int .u64 r3,.int .i64 r4] (0,0) _ rfl (blk_put (blk_put (blk_put (blk_put (A.out) 0 (.bool r1) rfl) 1 (.int .u64 r2) rfl) 2 (.int .u64 r3) rfl) 3 (.int .i64 r4) rfl) Try.underlying30 rfl (by kernel_rfl)) rfl ?_;have E:w0.heap.size≤gr:=by have:=B.out;have:=M.out.size;omega
    refine⟨rfl,⟨?_,G.out.2⟩,?_,?_⟩
    · simpa [hy] using blk_far (blk_far (blk_far (blk_far (R.out) (p:=⟨gr,0,none⟩) (by simpa using C) _) (p:=⟨gr,1,none⟩) (by simpa using C) _) (p:=⟨gr,2,none⟩) (by simpa using C) _) (p:=⟨gr,3,none⟩) (by simpa using C) _
    · exact ((((T.out).setCell (p:=⟨gr,0,none⟩) E _).setCell (p:=⟨gr,1,none⟩) E _).setCell (p:=⟨gr,2,none⟩) E _).setCell (p:=⟨gr,3,none⟩) E _
    · exact keep_far (keep_far (keep_far (keep_far (U.out) (p:=⟨gr,0,none⟩) (by have:=B.out;simp;omega) _) (p:=⟨gr,1,none⟩) (by have:=B.out;simp;omega) _) (p:=⟨gr,2,none⟩) (by have:=B.out;simp;omega) _) (p:=⟨gr,3,none⟩) (by have:=B.out;simp;omega) _
theorem api_Prefix.calls (k:Nat) (g:Nat) (A:ByteArray) (B:Int) (r1:Bool) (r2:Int) (r3:Int) (r4:Int) (r5:ByteArray) (r6:Int) (w0 w:World) (hI:IsS85 w0 w g A B) (hB:Below w0.heap.size w0 w) (h:api_Prefix.f k A B=some (r1,r2,r3,r4,r5,r6)):
    Calls Try.prog 35 #[.pointer (some ⟨g,0,none⟩),.func (.func 36) #[] #[]] w fun e w'=>e= .returned (.agg #[.bool r1,.int .u64 r2,.int .u64 r3,.int .i64 r4])∧IsS85 w0 w' g r5 r6∧Below w0.heap.size w0 w'∧KeepBut w w' g none:=by
  obtain⟨⟨t1,t2,t3,t4,t5,t6⟩,ht,h⟩:=Option.bind_eq_some_iff.mp h;simp only[Option.some.injEq,Prod.mk.injEq]at h;obtain⟨rfl,rfl,rfl,rfl,rfl,rfl⟩:=h;exact api_Prefix.calls0 k g A B t1 t2 t3 t4 t5 t6 w0 w hI hB ht
mutual
def num_Get.l0 : Nat → ByteArray → Int → Int → Int → Option (Int × ByteArray × Int)
 | 0, _, _, _, _ => none
 | k + 1, x0, x5, x10, x11 => if x11 < x10 then (if 0 ≤ x11 then (if x11 < (x0.size : Int) then (if 0 ≤ (wrap64 (7 * x11)) then (if x11 = 9 then (num_Get.j1 k x0 (Go.bits .or .u64 x5 (shl .u64 (IntKind.u64.wrap (Go.bits .andNot .u8 (bt x0 x11) 128)) (wrap64 (7 * x11)))) x11 (bt x0 x11) x10 x11 (decide ((bt x0 x11) > 1))) else (num_Get.j1 k x0 (Go.bits .or .u64 x5 (shl .u64 (IntKind.u64.wrap (Go.bits .andNot .u8 (bt x0 x11) 128)) (wrap64 (7 * x11)))) x11 (bt x0 x11) x10 x11 false)) else (none)) else (none)) else (none)) else (some (0, (⟨#[]⟩ : ByteArray), 5))
def num_Get.j1 : Nat → ByteArray → Int → Int → Int → Int → Int → Bool → Option (Int × ByteArray × Int)
 | 0, _, _, _, _, _, _, _ => none
 | k + 1, x0, x5, x6, x7, x10, x11, x25 => if x25 = true then (num_Get.j2 k x0 x5 x6 x7 x10 x11 x25) else (if x7 = 0 then (num_Get.j2 k x0 x5 x6 x7 x10 x11 (decide (x6 > 0))) else (num_Get.j2 k x0 x5 x6 x7 x10 x11 false))
def num_Get.j2 : Nat → ByteArray → Int → Int → Int → Int → Int → Bool → Option (Int × ByteArray × Int)
 | 0, _, _, _, _, _, _, _ => none
 | k + 1, x0, x5, x6, x7, x10, x11, x25 => if x25 = true then (some (0, (⟨#[]⟩ : ByteArray), 7)) else (if x7 < 128 then (if 0 ≤ (wrap64 (x6 + 1)) then (if (wrap64 (x6 + 1)) ≤ (x0.size : Int) then (some (x5, x0.extract ((wrap64 (x6 + 1)) : Int).toNat x0.size, 0)) else (none)) else (none)) else (num_Get.l0 k x0 x5 x10 (wrap64 (x11 + 1))))
end
def num_Get.f (k:Nat) (a0:ByteArray):Option (Int × ByteArray × Int):=num_Get.l0 k a0 0 (mn (a0.size:Int) 10) 0
theorem num_Get.mono_l: ∀ k,(∀ y0 y1 y2 y3,LeO (num_Get.l0 k y0 y1 y2 y3) (num_Get.l0 (k+1) y0 y1 y2 y3))∧(∀ y0 y1 y2 y3 y4 y5 y6,LeO (num_Get.j1 k y0 y1 y2 y3 y4 y5 y6) (num_Get.j1 (k+1) y0 y1 y2 y3 y4 y5 y6))∧(∀ y0 y1 y2 y3 y4 y5 y6,LeO (num_Get.j2 k y0 y1 y2 y3 y4 y5 y6) (num_Get.j2 (k+1) y0 y1 y2 y3 y4 y5 y6))
 |0=>⟨fun _ _ _ _ r h=>by simp [num_Get.l0]at h,fun _ _ _ _ _ _ _ r h=>by simp [num_Get.j1]at h,fun _ _ _ _ _ _ _ r h=>by simp [num_Get.j2]at h⟩
 |k+1=>by
  obtain⟨A,B,C⟩:=num_Get.mono_l k;refine⟨?_,?_,?_⟩
  ·intro y0 y1 y2 y3;unfold num_Get.l0
   repeat' first
   |(with_reducible exact A _ _ _ _)
   |(with_reducible exact B _ _ _ _ _ _ _)
   |(with_reducible exact C _ _ _ _ _ _ _)
   |(with_reducible exact LeO.refl _)
   |(with_reducible exact LeO.none _)
   |(with_reducible refine LeO.ite ?_ ?_)
   |(with_reducible refine LeO.bind ?_ (fun _=>?_))
   |exact A _ _ _ _
   |exact B _ _ _ _ _ _ _
   |exact C _ _ _ _ _ _ _
   |exact LeO.none _
   |refine LeO.ite ?_ ?_
   |refine LeO.bind ?_ (fun _=>?_)
  ·intro y0 y1 y2 y3 y4 y5 y6;unfold num_Get.j1
   repeat' first
   |(with_reducible exact A _ _ _ _)
   |(with_reducible exact B _ _ _ _ _ _ _)
   |(with_reducible exact C _ _ _ _ _ _ _)
   |(with_reducible exact LeO.refl _)
   |(with_reducible exact LeO.none _)
   |(with_reducible refine LeO.ite ?_ ?_)
   |(with_reducible refine LeO.bind ?_ (fun _=>?_))
   |exact A _ _ _ _
   |exact B _ _ _ _ _ _ _
   |exact C _ _ _ _ _ _ _
   |exact LeO.none _
   |refine LeO.ite ?_ ?_
   |refine LeO.bind ?_ (fun _=>?_)
  ·intro y0 y1 y2 y3 y4 y5 y6;unfold num_Get.j2
   repeat' first
   |(with_reducible exact A _ _ _ _)
   |(with_reducible exact B _ _ _ _ _ _ _)
   |(with_reducible exact C _ _ _ _ _ _ _)
   |(with_reducible exact LeO.refl _)
   |(with_reducible exact LeO.none _)
   |(with_reducible refine LeO.ite ?_ ?_)
   |(with_reducible refine LeO.bind ?_ (fun _=>?_))
   |exact A _ _ _ _
   |exact B _ _ _ _ _ _ _
   |exact C _ _ _ _ _ _ _
   |exact LeO.none _
   |refine LeO.ite ?_ ?_
   |refine LeO.bind ?_ (fun _=>?_)
theorem num_Get.mono: ∀ a0 k,LeO (num_Get.f k a0) (num_Get.f (k+1) a0):=by
 intro a0 k;obtain⟨A,B,C⟩:=num_Get.mono_l k;unfold num_Get.f
 repeat' first
   | (with_reducible exact A _ _ _ _)
   | (with_reducible exact B _ _ _ _ _ _ _)
   | (with_reducible exact C _ _ _ _ _ _ _)
   | (with_reducible exact LeO.refl _)
   | (with_reducible exact LeO.none _)
   | (with_reducible refine LeO.ite ?_ ?_)
   | (with_reducible refine LeO.bind ?_ (fun _ => ?_))
   | exact A _ _ _ _
   | exact B _ _ _ _ _ _ _
   | exact C _ _ _ _ _ _ _
   | exact LeO.none _
   | refine LeO.ite ?_ ?_
   | refine LeO.bind ?_ (fun _ => ?_)
end Go.Proofs.Ythkdfojmhloofaa.Q
end
