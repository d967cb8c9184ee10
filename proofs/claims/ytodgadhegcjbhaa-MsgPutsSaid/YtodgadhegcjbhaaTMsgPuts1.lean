-- Merged and trimmed by this session's program wip/tools/trim.py.
import Derived.Test.YtodgadhegcjbhaaProg
import Derived.Below
import Derived.Deep.Draws
import Derived.Deep.AppendLies
import Derived.Maps.AppendAt
import Derived.OwnWalk
import Derived.Laws.BytesArg
import Derived.Laws.MakeOwn
import Derived.Laws.OwnMore
import Derived.Deep.OwnRows
import Derived.Tactics
import Derived.Lib.ConvBytes
import Derived.Laws.Slices
import Derived.WalkKit
import Derived.KernelRfl
import Derived.RowKit3
import Derived.Deep.LoopGhost
import Derived.Deep.QuietTactic
import Derived.BigQuiet
import Derived.WideLaws
import Derived.Deep.DeepCutAuto
import Derived.Deep.CutBlock
import Derived.Deep.RegionHeld3
import Derived.Laws.Rows
import Derived.Lib.AppendStr
import Derived.ArgAppend
import Derived.Laws.IdiomCopy
import Derived.OrdersHeld
import Derived.Laws.BitsLemmas
import Derived.RowKit
import Derived.Test.YtodgadhegcjbhaaTMsgPuts0
section
namespace Go.Proofs.Ytodgadhegcjbhaa.Q
open Go.RowKit Go.Proofs.YtodgadhegcjbhaaW.PrintWords Go.Proofs.YtodgadhegcjbhaaW.PrintLast Go.Proofs.YtodgadhegcjbhaaW.PrintMore
attribute [local go_sem] max2_int min2_int max_two min_two max_three min_three max_four min_four   -- for this text's walks alone
set_option linter.unusedVariables false
set_option linter.unusedSimpArgs false
def errW : Option Int → Value
  | none => .nilIface
  | some c => .iface 0 (.int .i64 c)
theorem errW_none:errW none= .nilIface:=rfl
theorem errW_some (c:Int):errW (some c)= .iface 0 (.int .i64 c):=rfl
theorem bw0 {P Q  :Prop} (q:Q) (h:Q→P:=by intro q_;repeat (first|(with_reducible first|exact q_|apply below_alloc|apply pw_below_drewN|apply below_drew1)|exact q_)):P:=h q
theorem bf0 {P Q  :Prop} (q:Q) (h:Q→P:=by intro q_;(with_reducible repeat (first|refine blk_drewN ?_ _|refine blk_drew ?_|refine blk_alloc ?_ _));exact q_):P:=h q
theorem bw1 {P Q G0:Prop} (q:Q) (g0:G0) (h:Q→G0→P:=by intro q_ g0_;repeat (first|(with_reducible first|exact q_|apply below_alloc|apply pw_below_drewN|apply below_drew1|refine below_set ?_ g0_)|exact q_)):P:=h q g0
theorem bf1 {P Q G0:Prop} (q:Q) (g0:G0) (h:Q→G0→P:=by intro q_ g0_;(with_reducible repeat (first|refine blk_drewN ?_ _|refine blk_drew ?_|refine blk_alloc ?_ _));refine blk_far ?_ g0_ _;(with_reducible repeat (first|refine blk_drewN ?_ _|refine blk_drew ?_|refine blk_alloc ?_ _));exact q_):P:=h q g0
theorem bw2 {P Q G0 G1:Prop} (q:Q) (g0:G0) (g1:G1) (h:Q→G0→G1→P:=by intro q_ g0_ g1_;repeat (first|(with_reducible first|exact q_|apply below_alloc|apply pw_below_drewN|apply below_drew1|refine below_set ?_ g0_|refine below_set ?_ g1_)|exact q_)):P:=h q g0 g1
theorem bf2 {P Q G0 G1:Prop} (q:Q) (g0:G0) (g1:G1) (h:Q→G0→G1→P:=by intro q_ g0_ g1_;(with_reducible repeat (first|refine blk_drewN ?_ _|refine blk_drew ?_|refine blk_alloc ?_ _));refine blk_far ?_ g0_ _;(with_reducible repeat (first|refine blk_drewN ?_ _|refine blk_drew ?_|refine blk_alloc ?_ _));refine blk_far ?_ g1_ _;(with_reducible repeat (first|refine blk_drewN ?_ _|refine blk_drew ?_|refine blk_alloc ?_ _));exact q_):P:=h q g0 g1
theorem bw3 {P Q G0 G1 G2:Prop} (q:Q) (g0:G0) (g1:G1) (g2:G2) (h:Q→G0→G1→G2→P:=by intro q_ g0_ g1_ g2_;repeat (first|(with_reducible first|exact q_|apply below_alloc|apply pw_below_drewN|apply below_drew1|refine below_set ?_ g0_|refine below_set ?_ g1_|refine below_set ?_ g2_)|exact q_)):P:=h q g0 g1 g2
theorem bw4 {P Q G0 G1 G2 G3:Prop} (q:Q) (g0:G0) (g1:G1) (g2:G2) (g3:G3) (h:Q→G0→G1→G2→G3→P:=by intro q_ g0_ g1_ g2_ g3_;repeat (first|(with_reducible first|exact q_|apply below_alloc|apply pw_below_drewN|apply below_drew1|refine below_set ?_ g0_|refine below_set ?_ g1_|refine below_set ?_ g2_|refine below_set ?_ g3_)|exact q_)):P:=h q g0 g1 g2 g3
theorem bf4 {P Q G0 G1 G2 G3:Prop} (q:Q) (g0:G0) (g1:G1) (g2:G2) (g3:G3) (h:Q→G0→G1→G2→G3→P:=by intro q_ g0_ g1_ g2_ g3_;(with_reducible repeat (first|refine blk_drewN ?_ _|refine blk_drew ?_|refine blk_alloc ?_ _));refine blk_far ?_ g0_ _;(with_reducible repeat (first|refine blk_drewN ?_ _|refine blk_drew ?_|refine blk_alloc ?_ _));refine blk_far ?_ g1_ _;(with_reducible repeat (first|refine blk_drewN ?_ _|refine blk_drew ?_|refine blk_alloc ?_ _));refine blk_far ?_ g2_ _;(with_reducible repeat (first|refine blk_drewN ?_ _|refine blk_drew ?_|refine blk_alloc ?_ _));refine blk_far ?_ g3_ _;(with_reducible repeat (first|refine blk_drewN ?_ _|refine blk_drew ?_|refine blk_alloc ?_ _));exact q_):P:=h q g0 g1 g2 g3
theorem bw6 {P Q G0 G1 G2 G3 G4 G5:Prop} (q:Q) (g0:G0) (g1:G1) (g2:G2) (g3:G3) (g4:G4) (g5:G5) (h:Q→G0→G1→G2→G3→G4→G5→P:=by intro q_ g0_ g1_ g2_ g3_ g4_ g5_;repeat (first|(with_reducible first|exact q_|apply below_alloc|apply pw_below_drewN|apply below_drew1|refine below_set ?_ g0_|refine below_set ?_ g1_|refine below_set ?_ g2_|refine below_set ?_ g3_|refine below_set ?_ g4_|refine below_set ?_ g5_)|exact q_)):P:=h q g0 g1 g2 g3 g4 g5
theorem bf6 {P Q G0 G1 G2 G3 G4 G5:Prop} (q:Q) (g0:G0) (g1:G1) (g2:G2) (g3:G3) (g4:G4) (g5:G5) (h:Q→G0→G1→G2→G3→G4→G5→P:=by intro q_ g0_ g1_ g2_ g3_ g4_ g5_;(with_reducible repeat (first|refine blk_drewN ?_ _|refine blk_drew ?_|refine blk_alloc ?_ _));refine blk_far ?_ g0_ _;(with_reducible repeat (first|refine blk_drewN ?_ _|refine blk_drew ?_|refine blk_alloc ?_ _));refine blk_far ?_ g1_ _;(with_reducible repeat (first|refine blk_drewN ?_ _|refine blk_drew ?_|refine blk_alloc ?_ _));refine blk_far ?_ g2_ _;(with_reducible repeat (first|refine blk_drewN ?_ _|refine blk_drew ?_|refine blk_alloc ?_ _));refine blk_far ?_ g3_ _;(with_reducible repeat (first|refine blk_drewN ?_ _|refine blk_drew ?_|refine blk_alloc ?_ _));refine blk_far ?_ g4_ _;(with_reducible repeat (first|refine blk_drewN ?_ _|refine blk_drew ?_|refine blk_alloc ?_ _));refine blk_far ?_ g5_ _;(with_reducible repeat (first|refine blk_drewN ?_ _|refine blk_drew ?_|refine blk_alloc ?_ _));exact q_):P:=h q g0 g1 g2 g3 g4 g5
theorem Bx0 {W W1 w:World}{g:Nat}{o:Obj} (q:Aside0 (W.heap[g]? =some o)) (hb:Below W1.heap.size W1 w) (h:W.heap[g]? =some o→W1.heap[g]? =some o:=by intro q_;(with_reducible repeat (first|refine blk_drewN ?_ _|refine blk_drew ?_|refine blk_alloc ?_ _));exact q_):Aside0 (w.heap[g]? =some o):=⟨blk_below (h q.out) hb⟩
theorem Nl0 {W W1:World}{g g':Nat}{o:Obj} (q:Aside0 (W.heap[g]? =some o)) (hg:g'=W1.heap.size) (h:W.heap[g]? =some o→W1.heap[g]? =some o:=by intro q_;(with_reducible repeat (first|refine blk_drewN ?_ _|refine blk_drew ?_|refine blk_alloc ?_ _));exact q_):Aside0 (g≠g'):=⟨by rw [hg];exact Nat.ne_of_lt (blk_lt (h q.out))⟩
theorem Nr0 {W W1:World}{g g':Nat}{o:Obj} (q:Aside0 (W.heap[g]? =some o)) (hg:g'=W1.heap.size) (h:W.heap[g]? =some o→W1.heap[g]? =some o:=by intro q_;(with_reducible repeat (first|refine blk_drewN ?_ _|refine blk_drew ?_|refine blk_alloc ?_ _));exact q_):Aside0 (g'≠g):=⟨by rw [hg];exact Nat.ne_of_gt (blk_lt (h q.out))⟩
theorem Bs0 {w W W1 w2:World} (q:Aside0 (Below w.heap.size w W)) (hb:Below W1.heap.size W1 w2) (h:Below w.heap.size w W→Below w.heap.size w W1:=by intro q_;repeat (first|(with_reducible first|exact q_|apply below_alloc|apply pw_below_drewN|apply below_drew1)|exact q_)):Aside0 (Below w.heap.size w w2):=⟨below_step (h q.out) hb⟩
theorem Gw0 {w W W1:World}{g:Nat} (q:Aside0 (Below w.heap.size w W)) (hg:g=W1.heap.size) (h:Below w.heap.size w W→Below w.heap.size w W1:=by intro q_;repeat (first|(with_reducible first|exact q_|apply below_alloc|apply pw_below_drewN|apply below_drew1)|exact q_)):Aside0 (w.heap.size≤g):=⟨by rw [hg];exact below_size (h q.out)⟩
theorem Bx1 {W W1 w:World}{g:Nat}{o:Obj}{G0:Prop} (q:Aside0 (W.heap[g]? =some o)) (hb:Below W1.heap.size W1 w) (g0:G0) (h:W.heap[g]? =some o→G0→W1.heap[g]? =some o:=by intro q_ g0_;(with_reducible repeat (first|refine blk_drewN ?_ _|refine blk_drew ?_|refine blk_alloc ?_ _));refine blk_far ?_ g0_ _;(with_reducible repeat (first|refine blk_drewN ?_ _|refine blk_drew ?_|refine blk_alloc ?_ _));exact q_):Aside0 (w.heap[g]? =some o):=⟨blk_below (h q.out g0) hb⟩
theorem Nl1 {W W1:World}{g g':Nat}{o:Obj}{G0:Prop} (q:Aside0 (W.heap[g]? =some o)) (hg:g'=W1.heap.size) (g0:G0) (h:W.heap[g]? =some o→G0→W1.heap[g]? =some o:=by intro q_ g0_;(with_reducible repeat (first|refine blk_drewN ?_ _|refine blk_drew ?_|refine blk_alloc ?_ _));refine blk_far ?_ g0_ _;(with_reducible repeat (first|refine blk_drewN ?_ _|refine blk_drew ?_|refine blk_alloc ?_ _));exact q_):Aside0 (g≠g'):=⟨by rw [hg];exact Nat.ne_of_lt (blk_lt (h q.out g0))⟩
theorem Nr1 {W W1:World}{g g':Nat}{o:Obj}{G0:Prop} (q:Aside0 (W.heap[g]? =some o)) (hg:g'=W1.heap.size) (g0:G0) (h:W.heap[g]? =some o→G0→W1.heap[g]? =some o:=by intro q_ g0_;(with_reducible repeat (first|refine blk_drewN ?_ _|refine blk_drew ?_|refine blk_alloc ?_ _));refine blk_far ?_ g0_ _;(with_reducible repeat (first|refine blk_drewN ?_ _|refine blk_drew ?_|refine blk_alloc ?_ _));exact q_):Aside0 (g'≠g):=⟨by rw [hg];exact Nat.ne_of_gt (blk_lt (h q.out g0))⟩
theorem Bs1 {w W W1 w2:World}{G0:Prop} (q:Aside0 (Below w.heap.size w W)) (hb:Below W1.heap.size W1 w2) (g0:G0) (h:Below w.heap.size w W→G0→Below w.heap.size w W1:=by intro q_ g0_;repeat (first|(with_reducible first|exact q_|apply below_alloc|apply pw_below_drewN|apply below_drew1|refine below_set ?_ g0_)|exact q_)):Aside0 (Below w.heap.size w w2):=⟨below_step (h q.out g0) hb⟩
theorem Gw1 {w W W1:World}{g:Nat}{G0:Prop} (q:Aside0 (Below w.heap.size w W)) (hg:g=W1.heap.size) (g0:G0) (h:Below w.heap.size w W→G0→Below w.heap.size w W1:=by intro q_ g0_;repeat (first|(with_reducible first|exact q_|apply below_alloc|apply pw_below_drewN|apply below_drew1|refine below_set ?_ g0_)|exact q_)):Aside0 (w.heap.size≤g):=⟨by rw [hg];exact below_size (h q.out g0)⟩
theorem Bx2 {W W1 w:World}{g:Nat}{o:Obj}{G0 G1:Prop} (q:Aside0 (W.heap[g]? =some o)) (hb:Below W1.heap.size W1 w) (g0:G0) (g1:G1) (h:W.heap[g]? =some o→G0→G1→W1.heap[g]? =some o:=by intro q_ g0_ g1_;(with_reducible repeat (first|refine blk_drewN ?_ _|refine blk_drew ?_|refine blk_alloc ?_ _));refine blk_far ?_ g0_ _;(with_reducible repeat (first|refine blk_drewN ?_ _|refine blk_drew ?_|refine blk_alloc ?_ _));refine blk_far ?_ g1_ _;(with_reducible repeat (first|refine blk_drewN ?_ _|refine blk_drew ?_|refine blk_alloc ?_ _));exact q_):Aside0 (w.heap[g]? =some o):=⟨blk_below (h q.out g0 g1) hb⟩
theorem Nl2 {W W1:World}{g g':Nat}{o:Obj}{G0 G1:Prop} (q:Aside0 (W.heap[g]? =some o)) (hg:g'=W1.heap.size) (g0:G0) (g1:G1) (h:W.heap[g]? =some o→G0→G1→W1.heap[g]? =some o:=by intro q_ g0_ g1_;(with_reducible repeat (first|refine blk_drewN ?_ _|refine blk_drew ?_|refine blk_alloc ?_ _));refine blk_far ?_ g0_ _;(with_reducible repeat (first|refine blk_drewN ?_ _|refine blk_drew ?_|refine blk_alloc ?_ _));refine blk_far ?_ g1_ _;(with_reducible repeat (first|refine blk_drewN ?_ _|refine blk_drew ?_|refine blk_alloc ?_ _));exact q_):Aside0 (g≠g'):=⟨by rw [hg];exact Nat.ne_of_lt (blk_lt (h q.out g0 g1))⟩
theorem Nr2 {W W1:World}{g g':Nat}{o:Obj}{G0 G1:Prop} (q:Aside0 (W.heap[g]? =some o)) (hg:g'=W1.heap.size) (g0:G0) (g1:G1) (h:W.heap[g]? =some o→G0→G1→W1.heap[g]? =some o:=by intro q_ g0_ g1_;(with_reducible repeat (first|refine blk_drewN ?_ _|refine blk_drew ?_|refine blk_alloc ?_ _));refine blk_far ?_ g0_ _;(with_reducible repeat (first|refine blk_drewN ?_ _|refine blk_drew ?_|refine blk_alloc ?_ _));refine blk_far ?_ g1_ _;(with_reducible repeat (first|refine blk_drewN ?_ _|refine blk_drew ?_|refine blk_alloc ?_ _));exact q_):Aside0 (g'≠g):=⟨by rw [hg];exact Nat.ne_of_gt (blk_lt (h q.out g0 g1))⟩
theorem Bs2 {w W W1 w2:World}{G0 G1:Prop} (q:Aside0 (Below w.heap.size w W)) (hb:Below W1.heap.size W1 w2) (g0:G0) (g1:G1) (h:Below w.heap.size w W→G0→G1→Below w.heap.size w W1:=by intro q_ g0_ g1_;repeat (first|(with_reducible first|exact q_|apply below_alloc|apply pw_below_drewN|apply below_drew1|refine below_set ?_ g0_|refine below_set ?_ g1_)|exact q_)):Aside0 (Below w.heap.size w w2):=⟨below_step (h q.out g0 g1) hb⟩
theorem Gw2 {w W W1:World}{g:Nat}{G0 G1:Prop} (q:Aside0 (Below w.heap.size w W)) (hg:g=W1.heap.size) (g0:G0) (g1:G1) (h:Below w.heap.size w W→G0→G1→Below w.heap.size w W1:=by intro q_ g0_ g1_;repeat (first|(with_reducible first|exact q_|apply below_alloc|apply pw_below_drewN|apply below_drew1|refine below_set ?_ g0_|refine below_set ?_ g1_)|exact q_)):Aside0 (w.heap.size≤g):=⟨by rw [hg];exact below_size (h q.out g0 g1)⟩
theorem Bx3 {W W1 w:World}{g:Nat}{o:Obj}{G0 G1 G2:Prop} (q:Aside0 (W.heap[g]? =some o)) (hb:Below W1.heap.size W1 w) (g0:G0) (g1:G1) (g2:G2) (h:W.heap[g]? =some o→G0→G1→G2→W1.heap[g]? =some o:=by intro q_ g0_ g1_ g2_;(with_reducible repeat (first|refine blk_drewN ?_ _|refine blk_drew ?_|refine blk_alloc ?_ _));refine blk_far ?_ g0_ _;(with_reducible repeat (first|refine blk_drewN ?_ _|refine blk_drew ?_|refine blk_alloc ?_ _));refine blk_far ?_ g1_ _;(with_reducible repeat (first|refine blk_drewN ?_ _|refine blk_drew ?_|refine blk_alloc ?_ _));refine blk_far ?_ g2_ _;(with_reducible repeat (first|refine blk_drewN ?_ _|refine blk_drew ?_|refine blk_alloc ?_ _));exact q_):Aside0 (w.heap[g]? =some o):=⟨blk_below (h q.out g0 g1 g2) hb⟩
theorem Bs3 {w W W1 w2:World}{G0 G1 G2:Prop} (q:Aside0 (Below w.heap.size w W)) (hb:Below W1.heap.size W1 w2) (g0:G0) (g1:G1) (g2:G2) (h:Below w.heap.size w W→G0→G1→G2→Below w.heap.size w W1:=by intro q_ g0_ g1_ g2_;repeat (first|(with_reducible first|exact q_|apply below_alloc|apply pw_below_drewN|apply below_drew1|refine below_set ?_ g0_|refine below_set ?_ g1_|refine below_set ?_ g2_)|exact q_)):Aside0 (Below w.heap.size w w2):=⟨below_step (h q.out g0 g1 g2) hb⟩
theorem Gw3 {w W W1:World}{g:Nat}{G0 G1 G2:Prop} (q:Aside0 (Below w.heap.size w W)) (hg:g=W1.heap.size) (g0:G0) (g1:G1) (g2:G2) (h:Below w.heap.size w W→G0→G1→G2→Below w.heap.size w W1:=by intro q_ g0_ g1_ g2_;repeat (first|(with_reducible first|exact q_|apply below_alloc|apply pw_below_drewN|apply below_drew1|refine below_set ?_ g0_|refine below_set ?_ g1_|refine below_set ?_ g2_)|exact q_)):Aside0 (w.heap.size≤g):=⟨by rw [hg];exact below_size (h q.out g0 g1 g2)⟩
theorem Bx4 {W W1 w:World}{g:Nat}{o:Obj}{G0 G1 G2 G3:Prop} (q:Aside0 (W.heap[g]? =some o)) (hb:Below W1.heap.size W1 w) (g0:G0) (g1:G1) (g2:G2) (g3:G3) (h:W.heap[g]? =some o→G0→G1→G2→G3→W1.heap[g]? =some o:=by intro q_ g0_ g1_ g2_ g3_;(with_reducible repeat (first|refine blk_drewN ?_ _|refine blk_drew ?_|refine blk_alloc ?_ _));refine blk_far ?_ g0_ _;(with_reducible repeat (first|refine blk_drewN ?_ _|refine blk_drew ?_|refine blk_alloc ?_ _));refine blk_far ?_ g1_ _;(with_reducible repeat (first|refine blk_drewN ?_ _|refine blk_drew ?_|refine blk_alloc ?_ _));refine blk_far ?_ g2_ _;(with_reducible repeat (first|refine blk_drewN ?_ _|refine blk_drew ?_|refine blk_alloc ?_ _));refine blk_far ?_ g3_ _;(with_reducible repeat (first|refine blk_drewN ?_ _|refine blk_drew ?_|refine blk_alloc ?_ _));exact q_):Aside0 (w.heap[g]? =some o):=⟨blk_below (h q.out g0 g1 g2 g3) hb⟩
theorem Nl4 {W W1:World}{g g':Nat}{o:Obj}{G0 G1 G2 G3:Prop} (q:Aside0 (W.heap[g]? =some o)) (hg:g'=W1.heap.size) (g0:G0) (g1:G1) (g2:G2) (g3:G3) (h:W.heap[g]? =some o→G0→G1→G2→G3→W1.heap[g]? =some o:=by intro q_ g0_ g1_ g2_ g3_;(with_reducible repeat (first|refine blk_drewN ?_ _|refine blk_drew ?_|refine blk_alloc ?_ _));refine blk_far ?_ g0_ _;(with_reducible repeat (first|refine blk_drewN ?_ _|refine blk_drew ?_|refine blk_alloc ?_ _));refine blk_far ?_ g1_ _;(with_reducible repeat (first|refine blk_drewN ?_ _|refine blk_drew ?_|refine blk_alloc ?_ _));refine blk_far ?_ g2_ _;(with_reducible repeat (first|refine blk_drewN ?_ _|refine blk_drew ?_|refine blk_alloc ?_ _));refine blk_far ?_ g3_ _;(with_reducible repeat (first|refine blk_drewN ?_ _|refine blk_drew ?_|refine blk_alloc ?_ _));exact q_):Aside0 (g≠g'):=⟨by rw [hg];exact Nat.ne_of_lt (blk_lt (h q.out g0 g1 g2 g3))⟩
theorem Nr4 {W W1:World}{g g':Nat}{o:Obj}{G0 G1 G2 G3:Prop} (q:Aside0 (W.heap[g]? =some o)) (hg:g'=W1.heap.size) (g0:G0) (g1:G1) (g2:G2) (g3:G3) (h:W.heap[g]? =some o→G0→G1→G2→G3→W1.heap[g]? =some o:=by intro q_ g0_ g1_ g2_ g3_;(with_reducible repeat (first|refine blk_drewN ?_ _|refine blk_drew ?_|refine blk_alloc ?_ _));refine blk_far ?_ g0_ _;(with_reducible repeat (first|refine blk_drewN ?_ _|refine blk_drew ?_|refine blk_alloc ?_ _));refine blk_far ?_ g1_ _;(with_reducible repeat (first|refine blk_drewN ?_ _|refine blk_drew ?_|refine blk_alloc ?_ _));refine blk_far ?_ g2_ _;(with_reducible repeat (first|refine blk_drewN ?_ _|refine blk_drew ?_|refine blk_alloc ?_ _));refine blk_far ?_ g3_ _;(with_reducible repeat (first|refine blk_drewN ?_ _|refine blk_drew ?_|refine blk_alloc ?_ _));exact q_):Aside0 (g'≠g):=⟨by rw [hg];exact Nat.ne_of_gt (blk_lt (h q.out g0 g1 g2 g3))⟩
theorem Bs4 {w W W1 w2:World}{G0 G1 G2 G3:Prop} (q:Aside0 (Below w.heap.size w W)) (hb:Below W1.heap.size W1 w2) (g0:G0) (g1:G1) (g2:G2) (g3:G3) (h:Below w.heap.size w W→G0→G1→G2→G3→Below w.heap.size w W1:=by intro q_ g0_ g1_ g2_ g3_;repeat (first|(with_reducible first|exact q_|apply below_alloc|apply pw_below_drewN|apply below_drew1|refine below_set ?_ g0_|refine below_set ?_ g1_|refine below_set ?_ g2_|refine below_set ?_ g3_)|exact q_)):Aside0 (Below w.heap.size w w2):=⟨below_step (h q.out g0 g1 g2 g3) hb⟩
theorem Gw4 {w W W1:World}{g:Nat}{G0 G1 G2 G3:Prop} (q:Aside0 (Below w.heap.size w W)) (hg:g=W1.heap.size) (g0:G0) (g1:G1) (g2:G2) (g3:G3) (h:Below w.heap.size w W→G0→G1→G2→G3→Below w.heap.size w W1:=by intro q_ g0_ g1_ g2_ g3_;repeat (first|(with_reducible first|exact q_|apply below_alloc|apply pw_below_drewN|apply below_drew1|refine below_set ?_ g0_|refine below_set ?_ g1_|refine below_set ?_ g2_|refine below_set ?_ g3_)|exact q_)):Aside0 (w.heap.size≤g):=⟨by rw [hg];exact below_size (h q.out g0 g1 g2 g3)⟩
theorem Bs5 {w W W1 w2:World}{G0 G1 G2 G3 G4:Prop} (q:Aside0 (Below w.heap.size w W)) (hb:Below W1.heap.size W1 w2) (g0:G0) (g1:G1) (g2:G2) (g3:G3) (g4:G4) (h:Below w.heap.size w W→G0→G1→G2→G3→G4→Below w.heap.size w W1:=by intro q_ g0_ g1_ g2_ g3_ g4_;repeat (first|(with_reducible first|exact q_|apply below_alloc|apply pw_below_drewN|apply below_drew1|refine below_set ?_ g0_|refine below_set ?_ g1_|refine below_set ?_ g2_|refine below_set ?_ g3_|refine below_set ?_ g4_)|exact q_)):Aside0 (Below w.heap.size w w2):=⟨below_step (h q.out g0 g1 g2 g3 g4) hb⟩
theorem Gw5 {w W W1:World}{g:Nat}{G0 G1 G2 G3 G4:Prop} (q:Aside0 (Below w.heap.size w W)) (hg:g=W1.heap.size) (g0:G0) (g1:G1) (g2:G2) (g3:G3) (g4:G4) (h:Below w.heap.size w W→G0→G1→G2→G3→G4→Below w.heap.size w W1:=by intro q_ g0_ g1_ g2_ g3_ g4_;repeat (first|(with_reducible first|exact q_|apply below_alloc|apply pw_below_drewN|apply below_drew1|refine below_set ?_ g0_|refine below_set ?_ g1_|refine below_set ?_ g2_|refine below_set ?_ g3_|refine below_set ?_ g4_)|exact q_)):Aside0 (w.heap.size≤g):=⟨by rw [hg];exact below_size (h q.out g0 g1 g2 g3 g4)⟩
theorem Bx6 {W W1 w:World}{g:Nat}{o:Obj}{G0 G1 G2 G3 G4 G5:Prop} (q:Aside0 (W.heap[g]? =some o)) (hb:Below W1.heap.size W1 w) (g0:G0) (g1:G1) (g2:G2) (g3:G3) (g4:G4) (g5:G5) (h:W.heap[g]? =some o→G0→G1→G2→G3→G4→G5→W1.heap[g]? =some o:=by intro q_ g0_ g1_ g2_ g3_ g4_ g5_;(with_reducible repeat (first|refine blk_drewN ?_ _|refine blk_drew ?_|refine blk_alloc ?_ _));refine blk_far ?_ g0_ _;(with_reducible repeat (first|refine blk_drewN ?_ _|refine blk_drew ?_|refine blk_alloc ?_ _));refine blk_far ?_ g1_ _;(with_reducible repeat (first|refine blk_drewN ?_ _|refine blk_drew ?_|refine blk_alloc ?_ _));refine blk_far ?_ g2_ _;(with_reducible repeat (first|refine blk_drewN ?_ _|refine blk_drew ?_|refine blk_alloc ?_ _));refine blk_far ?_ g3_ _;(with_reducible repeat (first|refine blk_drewN ?_ _|refine blk_drew ?_|refine blk_alloc ?_ _));refine blk_far ?_ g4_ _;(with_reducible repeat (first|refine blk_drewN ?_ _|refine blk_drew ?_|refine blk_alloc ?_ _));refine blk_far ?_ g5_ _;(with_reducible repeat (first|refine blk_drewN ?_ _|refine blk_drew ?_|refine blk_alloc ?_ _));exact q_):Aside0 (w.heap[g]? =some o):=⟨blk_below (h q.out g0 g1 g2 g3 g4 g5) hb⟩
theorem Bs6 {w W W1 w2:World}{G0 G1 G2 G3 G4 G5:Prop} (q:Aside0 (Below w.heap.size w W)) (hb:Below W1.heap.size W1 w2) (g0:G0) (g1:G1) (g2:G2) (g3:G3) (g4:G4) (g5:G5) (h:Below w.heap.size w W→G0→G1→G2→G3→G4→G5→Below w.heap.size w W1:=by intro q_ g0_ g1_ g2_ g3_ g4_ g5_;repeat (first|(with_reducible first|exact q_|apply below_alloc|apply pw_below_drewN|apply below_drew1|refine below_set ?_ g0_|refine below_set ?_ g1_|refine below_set ?_ g2_|refine below_set ?_ g3_|refine below_set ?_ g4_|refine below_set ?_ g5_)|exact q_)):Aside0 (Below w.heap.size w w2):=⟨below_step (h q.out g0 g1 g2 g3 g4 g5) hb⟩
theorem cl2 {W:World}{g:Nat}{t:TypeId}{x0 x1:Value} (h:Aside0 (W.heap[g]? =some (.cells #[x0,x1] t (0,0)))):W.cell? ⟨g,0,none⟩=some x0∧W.cell? ⟨g,1,none⟩=some x1∧W.frozen? ⟨g,0,none⟩=false∧W.frozen? ⟨g,1,none⟩=false:=⟨(blk_cell h.out 0).trans rfl,(blk_cell h.out 1).trans rfl,blk_frozen h.out 0,blk_frozen h.out 1⟩
theorem cl4 {W:World}{g:Nat}{t:TypeId}{x0 x1 x2 x3:Value} (h:Aside0 (W.heap[g]? =some (.cells #[x0,x1,x2,x3] t (0,0)))):W.cell? ⟨g,0,none⟩=some x0∧W.cell? ⟨g,1,none⟩=some x1∧W.cell? ⟨g,2,none⟩=some x2∧W.cell? ⟨g,3,none⟩=some x3∧W.frozen? ⟨g,0,none⟩=false∧W.frozen? ⟨g,1,none⟩=false∧W.frozen? ⟨g,2,none⟩=false∧W.frozen? ⟨g,3,none⟩=false:=⟨(blk_cell h.out 0).trans rfl,(blk_cell h.out 1).trans rfl,(blk_cell h.out 2).trans rfl,(blk_cell h.out 3).trans rfl,blk_frozen h.out 0,blk_frozen h.out 1,blk_frozen h.out 2,blk_frozen h.out 3⟩
theorem cl7 {W:World}{g:Nat}{t:TypeId}{x0 x1 x2 x3 x4 x5 x6:Value} (h:Aside0 (W.heap[g]? =some (.cells #[x0,x1,x2,x3,x4,x5,x6] t (0,0)))):W.cell? ⟨g,0,none⟩=some x0∧W.cell? ⟨g,1,none⟩=some x1∧W.cell? ⟨g,2,none⟩=some x2∧W.cell? ⟨g,3,none⟩=some x3∧W.cell? ⟨g,4,none⟩=some x4∧W.cell? ⟨g,5,none⟩=some x5∧W.cell? ⟨g,6,none⟩=some x6∧W.frozen? ⟨g,0,none⟩=false∧W.frozen? ⟨g,1,none⟩=false∧W.frozen? ⟨g,2,none⟩=false∧W.frozen? ⟨g,3,none⟩=false∧W.frozen? ⟨g,4,none⟩=false∧W.frozen? ⟨g,5,none⟩=false∧W.frozen? ⟨g,6,none⟩=false:=⟨(blk_cell h.out 0).trans rfl,(blk_cell h.out 1).trans rfl,(blk_cell h.out 2).trans rfl,(blk_cell h.out 3).trans rfl,(blk_cell h.out 4).trans rfl,(blk_cell h.out 5).trans rfl,(blk_cell h.out 6).trans rfl,blk_frozen h.out 0,blk_frozen h.out 1,blk_frozen h.out 2,blk_frozen h.out 3,blk_frozen h.out 4,blk_frozen h.out 5,blk_frozen h.out 6⟩
theorem cl12 {W:World}{g:Nat}{t:TypeId}{x0 x1 x2 x3 x4 x5 x6 x7 x8 x9 x10 x11:Value} (h:Aside0 (W.heap[g]? =some (.cells #[x0,x1,x2,x3,x4,x5,x6,x7,x8,x9,x10,x11] t (0,0)))):W.cell? ⟨g,0,none⟩=some x0∧W.cell? ⟨g,1,none⟩=some x1∧W.cell? ⟨g,2,none⟩=some x2∧W.cell? ⟨g,3,none⟩=some x3∧W.cell? ⟨g,4,none⟩=some x4∧W.cell? ⟨g,5,none⟩=some x5∧W.cell? ⟨g,6,none⟩=some x6∧W.cell? ⟨g,7,none⟩=some x7∧W.cell? ⟨g,8,none⟩=some x8∧W.cell? ⟨g,9,none⟩=some x9∧W.cell? ⟨g,10,none⟩=some x10∧W.cell? ⟨g,11,none⟩=some x11∧W.frozen? ⟨g,0,none⟩=false∧W.frozen? ⟨g,1,none⟩=false∧W.frozen? ⟨g,2,none⟩=false∧W.frozen? ⟨g,3,none⟩=false∧W.frozen? ⟨g,4,none⟩=false∧W.frozen? ⟨g,5,none⟩=false∧W.frozen? ⟨g,6,none⟩=false∧W.frozen? ⟨g,7,none⟩=false∧W.frozen? ⟨g,8,none⟩=false∧W.frozen? ⟨g,9,none⟩=false∧W.frozen? ⟨g,10,none⟩=false∧W.frozen? ⟨g,11,none⟩=false:=⟨(blk_cell h.out 0).trans rfl,(blk_cell h.out 1).trans rfl,(blk_cell h.out 2).trans rfl,(blk_cell h.out 3).trans rfl,(blk_cell h.out 4).trans rfl,(blk_cell h.out 5).trans rfl,(blk_cell h.out 6).trans rfl,(blk_cell h.out 7).trans rfl,(blk_cell h.out 8).trans rfl,(blk_cell h.out 9).trans rfl,(blk_cell h.out 10).trans rfl,(blk_cell h.out 11).trans rfl,blk_frozen h.out 0,blk_frozen h.out 1,blk_frozen h.out 2,blk_frozen h.out 3,blk_frozen h.out 4,blk_frozen h.out 5,blk_frozen h.out 6,blk_frozen h.out 7,blk_frozen h.out 8,blk_frozen h.out 9,blk_frozen h.out 10,blk_frozen h.out 11⟩
theorem cl14 {W:World}{g:Nat}{t:TypeId}{x0 x1 x2 x3 x4 x5 x6 x7 x8 x9 x10 x11 x12 x13:Value} (h:Aside0 (W.heap[g]? =some (.cells #[x0,x1,x2,x3,x4,x5,x6,x7,x8,x9,x10,x11,x12,x13] t (0,0)))):W.cell? ⟨g,0,none⟩=some x0∧W.cell? ⟨g,1,none⟩=some x1∧W.cell? ⟨g,2,none⟩=some x2∧W.cell? ⟨g,3,none⟩=some x3∧W.cell? ⟨g,4,none⟩=some x4∧W.cell? ⟨g,5,none⟩=some x5∧W.cell? ⟨g,6,none⟩=some x6∧W.cell? ⟨g,7,none⟩=some x7∧W.cell? ⟨g,8,none⟩=some x8∧W.cell? ⟨g,9,none⟩=some x9∧W.cell? ⟨g,10,none⟩=some x10∧W.cell? ⟨g,11,none⟩=some x11∧W.cell? ⟨g,12,none⟩=some x12∧W.cell? ⟨g,13,none⟩=some x13∧W.frozen? ⟨g,0,none⟩=false∧W.frozen? ⟨g,1,none⟩=false∧W.frozen? ⟨g,2,none⟩=false∧W.frozen? ⟨g,3,none⟩=false∧W.frozen? ⟨g,4,none⟩=false∧W.frozen? ⟨g,5,none⟩=false∧W.frozen? ⟨g,6,none⟩=false∧W.frozen? ⟨g,7,none⟩=false∧W.frozen? ⟨g,8,none⟩=false∧W.frozen? ⟨g,9,none⟩=false∧W.frozen? ⟨g,10,none⟩=false∧W.frozen? ⟨g,11,none⟩=false∧W.frozen? ⟨g,12,none⟩=false∧W.frozen? ⟨g,13,none⟩=false:=⟨(blk_cell h.out 0).trans rfl,(blk_cell h.out 1).trans rfl,(blk_cell h.out 2).trans rfl,(blk_cell h.out 3).trans rfl,(blk_cell h.out 4).trans rfl,(blk_cell h.out 5).trans rfl,(blk_cell h.out 6).trans rfl,(blk_cell h.out 7).trans rfl,(blk_cell h.out 8).trans rfl,(blk_cell h.out 9).trans rfl,(blk_cell h.out 10).trans rfl,(blk_cell h.out 11).trans rfl,(blk_cell h.out 12).trans rfl,(blk_cell h.out 13).trans rfl,blk_frozen h.out 0,blk_frozen h.out 1,blk_frozen h.out 2,blk_frozen h.out 3,blk_frozen h.out 4,blk_frozen h.out 5,blk_frozen h.out 6,blk_frozen h.out 7,blk_frozen h.out 8,blk_frozen h.out 9,blk_frozen h.out 10,blk_frozen h.out 11,blk_frozen h.out 12,blk_frozen h.out 13⟩
theorem eS {P:Prop} (h:P:=by first|rfl|(simp [errW_none,errW_some] <;> rfl)|(simp [*,errW_none,errW_some] <;> rfl)):P:=h
theorem Ax {p:Prop} (h:p):Aside0 p:=⟨h⟩
abbrev tr:Bool:=true
abbrev fa:Bool:=false
theorem rS {P:Prop} (h:P:=by first|rfl|(simp;done)|(simp [*];done)):P:=h
theorem gS {P:Prop} (h:P:=by (try simp only[List.map_toArray,List.map_cons,List.map_nil]);first|done|rfl|(simp only[List.length_drop,List.length_take];rfl)|(simp only[Int.toNat_natCast,ByteArray.extract_zero_size];rfl)|(simp only[Int.toNat_natCast,ByteArray.extract_zero_size];done)):P:=h
theorem sP:(∀ (a:Act) (d:Tmp) (v:Value),Act.put a (some d) v= {a with tmps:=a.tmps.setIfInBounds d v})∧(∀ (a:Act) (v:Value),Act.put a none v=a)∧(∀ (l:List Value) (i:Nat) (a:Value),l.toArray.setIfInBounds i a=(l.set i a).toArray)∧(∀ (l:List Value) (x a:Value),(x :: l).set 0 a=a :: l)∧(∀ (l:List Value) (x a:Value) (n:Nat),(x :: l).set (n+1) a=x :: l.set n a)∧(∀ n:Int,IntKind.i64.wrap n=Go.RowKit.wrap64 n)∧(∀ n:Int,IntKind.i32.wrap n=Go.RowKit.wrap32 n):=⟨fun _ _ _=>rfl,fun _ _=>rfl,fun _ _ _=>List.setIfInBounds_toArray ..,fun _ _ _=>rfl,fun _ _ _ _=>rfl,i64_w,i32_w⟩
theorem gB {Q P : Prop} (q : Q) (h : Q → P := by intro q_; (repeat (first | with_reducible refine blk_drewN ?_ _ | with_reducible refine blk_drew ?_ | with_reducible refine blk_alloc ?_ _ | with_reducible apply blk_put)); (exact q_); (all_goals ((try simp only [sP]); (try rfl)))) : P := h q
theorem pz {P : Program} {ops : Array Oper} {Q : Exit → Act → World → Prop} {md : Region.Mode} {S : World → Prop} {ds : List Nat} {T : Bool × List (List Nat × List Nat)} {oi : Oper} {v : Value} {fuel : Nat} {l : Array Bool} {a a' : Act} {w : World} (i n : Nat) (l' : Array Bool) (hT : rtab md ops = T)
    (h : wpAnyLast P md ops Q S ds fuel l' a' w) (hk : anyT T l.toList l'.toList i = true := by kernel_rfl) (hi : ops[i]? = some oi := by rfl) (hN : oi.dst = some n := by rfl) (hQ : ∀ c a w, Q (.panic c) (a.put oi.dst v) w → Q (.panic c) a w := by exact fun _ _ _ h => h)
    (hy : Yields P ops oi v a := by refine Or.inl ⟨by rfl, ?_⟩; intro w'; go_simp; with_reducible rfl) (ha : a.put (some n) v = a' := by simp only [sP]; rfl) : wpAnyLast P md ops Q S ds (fuel + 1) l a w :=
  pure_ l' hi hN (any_of hT hk) hQ hy ha h
theorem gF {R Q P : Prop} (r : R) (q : Q) (h : R → Q → P := by intro r_ q_; (repeat (first | with_reducible refine blk_drewN ?_ _ | with_reducible refine blk_drew ?_ | with_reducible refine blk_alloc ?_ _ | with_reducible apply blk_put | refine blk_far ?_ (by first | exact r_ | exact r_.1 | exact r_.2 | exact r_.2.1 | exact r_.2.2 | exact r_.2.2.1 | exact r_.2.2.2) _)); (exact q_); (all_goals ((try simp only [sP]); (try rfl)))) : P := h r q
theorem gK {Q P : Prop} (q : Q) (h : Q → P := by intro q_; (repeat (refine And.intro ((blk_cell q_ _).trans rfl) ?_)); exact (blk_cell q_ _).trans rfl) : P := h q
theorem gL {R Q P : Prop} (r : R) (q : Q) (h : R → Q → P := by intro r_ q_; (repeat (refine And.intro ?_ ?_; (· (repeat (refine Eq.trans (cell_far (by exact r_) _) ?_)); exact q_.1); replace q_ := q_.2)); (repeat (refine Eq.trans (cell_far (by exact r_) _) ?_)); exact q_) : P := h r q
theorem pu {P : Program} {ops : Array Oper} {Q : Exit → Act → World → Prop} {md : Region.Mode} {S : World → Prop} {ds : List Nat} {T : Bool × List (List Nat × List Nat)} {oi : Oper} {fuel : Nat} {l : Array Bool} {a a' : Act} {w : World} (i n : Nat) (l' : Array Bool) (hT : rtab md ops = T)
    (h : wpAnyLast P md ops Q S ds fuel l' a' w) (hk : anyT T l.toList l'.toList i = true := by kernel_rfl) (hi : ops[i]? = some oi := by rfl) (hN : oi.dst = some n := by rfl) (hQ : ∀ c a w, Q (.panic c) (a.put oi.dst undef) w → Q (.panic c) a w := by exact fun _ _ _ h => h)
    (hy : Yields P ops oi undef a := by exact Or.inr ⟨by rfl, rfl⟩) (ha : a.put (some n) undef = a' := by simp only [sP]; rfl) : wpAnyLast P md ops Q S ds (fuel + 1) l a w :=
  pure_ l' hi hN (any_of hT hk) hQ hy ha h
theorem info3:(Try.prog.info? 3).map (fun i=>(i.zero,i.size,i.bytes))=some (some (.int .i64 0),1,8):=by kernel_rfl
theorem info5:(Try.prog.info? 5).map (fun i=>(i.zero,i.size,i.bytes))=some (some (.int .u8 0),1,1):=by kernel_rfl
structure S25 where
  f0 : Int
  f1 : Int
def k25:Kd S25:=Kd.iso (Kd.pair (Kd.int .u64) (Kd.int .u64)) (fun x:S25=>(x.f0,x.f1))
theorem k25_open {w:World}{x:S25}{cs:List Value} (h:k25.K w x cs):cs= [.int .u64 x.f0,.int .u64 x.f1]:=by
  obtain⟨_,_,rfl,rfl,rfl⟩:=h;exact rfl
structure S27 where
  f0 : Bool
  f1 : S25
  f2 : Int
def k27:Kd S27:=Kd.iso (Kd.pair Kd.bool (Kd.pair k25 (Kd.int .i64))) (fun x:S27=>(x.f0,x.f1,x.f2))
theorem k27_open {w:World}{x:S27}{cs:List Value} (h:k27.K w x cs):cs= [.bool x.f0,.int .u64 x.f1.f0,.int .u64 x.f1.f1,.int .i64 x.f2]:=by
  obtain⟨_,_,rfl,rfl,⟨_,_,rfl,s1,rfl⟩⟩:=h;obtain rfl:=k25_open s1;exact rfl
structure S30 where
  f0 : Int
  f1 : Int
def k30:Kd S30:=Kd.iso (Kd.pair (Kd.int .u8) (Kd.int .i64)) (fun x:S30=>(x.f0,x.f1))
theorem k30_open {w:World}{x:S30}{cs:List Value} (h:k30.K w x cs):cs= [.int .u8 x.f0,.int .i64 x.f1]:=by
  obtain⟨_,_,rfl,rfl,rfl⟩:=h;exact rfl
structure S32 where
  f0 : Int
  f1 : Int
  f2 : Int
  f3 : Int
  f4 : S27
  f5 : S30
  f6 : Int
  f7 : Int
def k32:Kd S32:=Kd.iso (Kd.pair (Kd.int .u8) (Kd.pair (Kd.int .i64) (Kd.pair (Kd.int .u64) (Kd.pair (Kd.int .i64) (Kd.pair k27 (Kd.pair k30 (Kd.pair (Kd.int .i64) (Kd.int .i64)))))))) (fun x:S32=>(x.f0,x.f1,x.f2,x.f3,x.f4,x.f5,x.f6,x.f7))
theorem k32_open {w:World}{x:S32}{cs:List Value} (h:k32.K w x cs):cs= [.int .u8 x.f0,.int .i64 x.f1,.int .u64 x.f2,.int .i64 x.f3,.bool x.f4.f0,.int .u64 x.f4.f1.f0,.int .u64 x.f4.f1.f1,.int .i64 x.f4.f2,.int .u8 x.f5.f0,.int .i64 x.f5.f1,.int .i64 x.f6,.int .i64 x.f7]:=by
  obtain⟨_,_,rfl,rfl,⟨_,_,rfl,rfl,⟨_,_,rfl,rfl,⟨_,_,rfl,rfl,⟨_,_,rfl,s4,⟨_,_,rfl,s8,⟨_,_,rfl,rfl,rfl⟩⟩⟩⟩⟩⟩⟩:=h;obtain rfl:=k27_open s4;obtain rfl:=k30_open s8;exact rfl
end Go.Proofs.Ytodgadhegcjbhaa.Q
end
section
namespace Go.Proofs.Ytodgadhegcjbhaa.Q
open Go.RowKit Go.Proofs.YtodgadhegcjbhaaW.PrintWords Go.Proofs.YtodgadhegcjbhaaW.PrintLast Go.Proofs.YtodgadhegcjbhaaW.PrintMore
attribute [local go_sem] max2_int min2_int max_two min_two max_three min_three max_four min_four   -- for this text's walks alone
set_option linter.unusedVariables false
set_option linter.unusedSimpArgs false
theorem eqA25 (d:Nat) (w:World) (x0 y0:Int) (x1 y1:Int):
    (Op.equalIn (d+2) 25 (.agg #[.int .u64 x0,.int .u64 x1]) (.agg #[.int .u64 y0,.int .u64 y1])).run Try.prog w= .ok (x0==y0&&(x1==y1)) w:=by
  refine eqA_of Try.underlying25 (by kernel_rfl) ?_;refine eqf_cons (by rfl) (by go_simp;rfl) (by go_simp;rfl) (by go_simp) ?_;exact eqf_last (by rfl) (by go_simp;rfl) (by go_simp;rfl) (by go_simp)
theorem eqA27 (d:Nat) (w:World) (x0 y0:Bool) (x1 y1:Int) (x2 y2:Int) (x3 y3:Int):
    (Op.equalIn (d+3) 27 (.agg #[.bool x0,.int .u64 x1,.int .u64 x2,.int .i64 x3]) (.agg #[.bool y0,.int .u64 y1,.int .u64 y2,.int .i64 y3])).run Try.prog w= .ok (x0==y0&&((x1==y1&&(x2==y2))&&(x3==y3))) w:=by
  refine eqA_of Try.underlying27 (by kernel_rfl) ?_;refine eqf_cons (by rfl) (by go_simp;rfl) (by go_simp;rfl) (by go_simp) ?_;refine eqf_cons (by rfl) (by go_simp) (by go_simp) (eqA25 (d+0) w _ _ _ _) ?_;exact eqf_last (by rfl) (by go_simp;rfl) (by go_simp;rfl) (by go_simp)
end Go.Proofs.Ytodgadhegcjbhaa.Q
end
section
namespace Go.Proofs.Ytodgadhegcjbhaa.Q
open Go.RowKit Go.Proofs.YtodgadhegcjbhaaW.PrintWords Go.Proofs.YtodgadhegcjbhaaW.PrintLast Go.Proofs.YtodgadhegcjbhaaW.PrintMore
attribute [local go_sem] max2_int min2_int max_two min_two max_three min_three max_four min_four   -- for this text's walks alone
set_option linter.unusedVariables false
set_option linter.unusedSimpArgs false
theorem eqA30 (d:Nat) (w:World) (x0 y0:Int) (x1 y1:Int):
    (Op.equalIn (d+2) 30 (.agg #[.int .u8 x0,.int .i64 x1]) (.agg #[.int .u8 y0,.int .i64 y1])).run Try.prog w= .ok (x0==y0&&(x1==y1)) w:=by
  refine eqA_of Try.underlying30 (by kernel_rfl) ?_;refine eqf_cons (by rfl) (by go_simp;rfl) (by go_simp;rfl) (by go_simp) ?_;exact eqf_last (by rfl) (by go_simp;rfl) (by go_simp;rfl) (by go_simp)
end Go.Proofs.Ytodgadhegcjbhaa.Q
end
section
namespace Go.Proofs.Ytodgadhegcjbhaa.Q
open Go.RowKit Go.Proofs.YtodgadhegcjbhaaW.PrintWords Go.Proofs.YtodgadhegcjbhaaW.PrintLast Go.Proofs.YtodgadhegcjbhaaW.PrintMore
attribute [local go_sem] max2_int min2_int max_two min_two max_three min_three max_four min_four   -- for this text's walks alone
set_option linter.unusedVariables false
set_option linter.unusedSimpArgs false
theorem eqA32 (d:Nat) (w:World) (x0 y0:Int) (x1 y1:Int) (x2 y2:Int) (x3 y3:Int) (x4 y4:Bool) (x5 y5:Int) (x6 y6:Int) (x7 y7:Int) (x8 y8:Int) (x9 y9:Int) (x10 y10:Int) (x11 y11:Int):
    (Op.equalIn (d+4) 32 (.agg #[.int .u8 x0,.int .i64 x1,.int .u64 x2,.int .i64 x3,.bool x4,.int .u64 x5,.int .u64 x6,.int .i64 x7,.int .u8 x8,.int .i64 x9,.int .i64 x10,.int .i64 x11]) (.agg #[.int .u8 y0,.int .i64 y1,.int .u64 y2,.int .i64 y3,.bool y4,.int .u64 y5,.int .u64 y6,.int .i64 y7,.int .u8 y8,.int .i64 y9,.int .i64 y10,.int .i64 y11])).run Try.prog w= .ok (x0==y0&&(x1==y1&&(x2==y2&&(x3==y3&&((x4==y4&&((x5==y5&&(x6==y6))&&(x7==y7)))&&((x8==y8&&(x9==y9))&&(x10==y10&&(x11==y11)))))))) w:=by
  refine eqA_of Try.underlying32 (by kernel_rfl) ?_;refine eqf_cons (by rfl) (by go_simp;rfl) (by go_simp;rfl) (by go_simp) ?_;refine eqf_cons (by rfl) (by go_simp;rfl) (by go_simp;rfl) (by go_simp) ?_;refine eqf_cons (by rfl) (by go_simp;rfl) (by go_simp;rfl) (by go_simp) ?_;refine eqf_cons (by rfl) (by go_simp;rfl) (by go_simp;rfl) (by go_simp) ?_;refine eqf_cons (by rfl) (by go_simp) (by go_simp) (eqA27 (d+0) w _ _ _ _ _ _ _ _) ?_;refine eqf_cons (by rfl) (by go_simp) (by go_simp) (eqA30 (d+1) w _ _ _ _) ?_;refine eqf_cons (by rfl) (by go_simp;rfl) (by go_simp;rfl) (by go_simp) ?_;exact eqf_last (by rfl) (by go_simp;rfl) (by go_simp;rfl) (by go_simp)
end Go.Proofs.Ytodgadhegcjbhaa.Q
end
section
namespace Go.Proofs.Ytodgadhegcjbhaa.Q
open Go.RowKit Go.Proofs.YtodgadhegcjbhaaW.PrintWords Go.Proofs.YtodgadhegcjbhaaW.PrintLast Go.Proofs.YtodgadhegcjbhaaW.PrintMore
attribute [local go_sem] max2_int min2_int max_two min_two max_three min_three max_four min_four   -- for this text's walks alone
set_option linter.unusedVariables false
set_option linter.unusedSimpArgs false
attribute [local go_sem high] eqA32
def msg_id.f (a0:Int):Option (Bool):=if a0 ≥ 0 then (some (decide (a0≤1048576))) else (some false)
set_option maxHeartbeats 8000000 in
set_option maxRecDepth 100000 in
theorem msg_id.calls (a0:Int) (r:Bool) (w:World) (h:msg_id.f a0=some r):
  Calls Try.prog 32 #[.int .i64 a0] w fun e w'=>e= .returned (.bool r)∧Drawn0 w w':=by
 have H:(if a0 ≥ 0 then (some (decide (a0≤1048576))) else (some false))=some r:=h;clear h;by_cases c2:a0 ≥ 0;·rw [if_pos c2]at H;have c2b0:decide (0≤a0)=true:=decide_eq_true c2;clear c2;obtain rfl:=Option.some.inj H;go_enter Try.func32,Try.ntmps32;go_wp2;go_ret;exact⟨by first|rfl|(simp;done)|(simp [*];done),by repeat (first|exact Drawn0.refl _|apply Drawn0.step)⟩
 ·rw [if_neg c2]at H;have c2b0:decide (0≤a0)=false:=decide_eq_false c2;clear c2;obtain rfl:=Option.some.inj H;go_enter Try.func32,Try.ntmps32;go_wp2;go_ret;exact⟨by first|rfl|(simp;done)|(simp [*];done),by repeat (first|exact Drawn0.refl _|apply Drawn0.step)⟩
def msg_iface.f (a0:Int):Option (Bool):=if a0 ≥ 0 then (some (decide (a0≤65536))) else (some false)
set_option maxHeartbeats 8000000 in
set_option maxRecDepth 100000 in
theorem msg_iface.calls (a0:Int) (r:Bool) (w:World) (h:msg_iface.f a0=some r):
  Calls Try.prog 35 #[.int .i64 a0] w fun e w'=>e= .returned (.bool r)∧Drawn0 w w':=by
 have H:(if a0 ≥ 0 then (some (decide (a0≤65536))) else (some false))=some r:=h;clear h;by_cases c2:a0 ≥ 0;·rw [if_pos c2]at H;have c2b0:decide (0≤a0)=true:=decide_eq_true c2;clear c2;obtain rfl:=Option.some.inj H;go_enter Try.func35,Try.ntmps35;go_wp2;go_ret;exact⟨by first|rfl|(simp;done)|(simp [*];done),by repeat (first|exact Drawn0.refl _|apply Drawn0.step)⟩
 ·rw [if_neg c2]at H;have c2b0:decide (0≤a0)=false:=decide_eq_false c2;clear c2;obtain rfl:=Option.some.inj H;go_enter Try.func35,Try.ntmps35;go_wp2;go_ret;exact⟨by first|rfl|(simp;done)|(simp [*];done),by repeat (first|exact Drawn0.refl _|apply Drawn0.step)⟩
def msg_acts.f (a0_0:Int) (a0_1:Int):Option (Bool):=if a0_0=1 then ((msg_iface.f a0_1).bind fun t102=>(some t102)) else (if a0_0=2 then (some (a0_1==0)) else (if a0_0=3 then (some (a0_1==0)) else (some false)))
set_option maxHeartbeats 8000000 in
set_option maxRecDepth 100000 in
theorem msg_acts.calls (a0_0:Int) (a0_1:Int) (r:Bool) (w:World) (h:msg_acts.f a0_0 a0_1=some r):
  Calls Try.prog 33 #[.agg #[.int .u8 a0_0,.int .i64 a0_1]] w fun e w'=>e= .returned (.bool r)∧Below w.heap.size w w':=by
 have hu30:=Try.underlying30;have HB:=Ax (Below.refl w.heap.size w);have H:(if a0_0=1 then ((msg_iface.f a0_1).bind fun t102=>(some t102)) else (if a0_0=2 then (some (a0_1==0)) else (if a0_0=3 then (some (a0_1==0)) else (some false))))=some r:=h;clear h;by_cases c2:a0_0=1;·rw [if_pos c2]at H;have c2b0:(a0_0==1)=true:=beq_iff_eq.mpr c2;have c2b1:(a0_0 !=1)=false:=bne_eq_false_iff_eq.mpr c2;clear c2;replace H:=Option.bind_eq_some_iff.mp H;obtain⟨t102,A30,H⟩:=H;replace H:(some t102)=some r:=H;have A3:=Ax A30;clear A30;obtain rfl:=Option.some.inj H;go_enter Try.func33,Try.ntmps33;go_wp2_with (first|((with_reducible refine gate_dst (N:=1) rfl ?_);refine box_event ?hg (N:=1) ?hd (cs:= #[.int .u8 a0_0,.int .i64 a0_1]) (t:=30) ?hr ?_;(case hd=>rfl);(case hg=>rfl);(case hr=>first|(go_simp;done)|(go_simp;rfl));intro gb101 hg w4 hbox hb;have n0_:=Bs0 HB hb;have n1_:=Ax (hbox);have n2_:=Gw0 HB hg;have n3_:=Gw0 HB hg;clear HB;have HB:=n0_;have BK101:=n1_;have GW101:=n2_;have GE101:=n3_;clear n0_ n1_ n2_ n3_;clear hb hbox hg;obtain⟨hcz5_0,hcz5_1,hfz5_0,hfz5_1⟩:=cl2 BK101)|((with_reducible refine gate_callee (f:=35) rfl ?_);refine goesL_ (some 9) rfl rfl Try.func35 (by kernel_rfl) rfl #[.int .i64 a0_1] rfl gS ?_;(with_reducible refine (msg_iface.calls a0_1 t102 _ A3.out).mono ?_);rintro e w' ⟨rfl,⟨nd,rfl⟩⟩;refine⟨_,rfl,?_⟩));go_ret;exact⟨eS,bw1 HB.out GE101.out⟩
 ·rw [if_neg c2]at H;have c2b0:(a0_0==1)=false:=beq_eq_false_iff_ne.mpr c2;have c2b1:(a0_0 !=1)=true:=bne_iff_ne.mpr c2;by_cases c6:a0_0=2;·rw [if_pos c6]at H;have c6b0:(a0_0==2)=true:=beq_iff_eq.mpr c6;have c6b1:(a0_0 !=2)=false:=bne_eq_false_iff_eq.mpr c6;clear c6;obtain rfl:=Option.some.inj H;go_enter Try.func33,Try.ntmps33;go_wp2_with (first|((with_reducible refine gate_dst (N:=1) rfl ?_);refine box_event ?hg (N:=1) ?hd (cs:= #[.int .u8 a0_0,.int .i64 a0_1]) (t:=30) ?hr ?_;(case hd=>rfl);(case hg=>rfl);(case hr=>first|(go_simp;done)|(go_simp;rfl));intro gb101 hg w7 hbox hb;have n0_:=Bs0 HB hb;have n1_:=Ax (hbox);have n2_:=Gw0 HB hg;have n3_:=Gw0 HB hg;clear HB;have HB:=n0_;have BK101:=n1_;have GW101:=n2_;have GE101:=n3_;clear n0_ n1_ n2_ n3_;clear hb hbox hg;obtain⟨hcz8_0,hcz8_1,hfz8_0,hfz8_1⟩:=cl2 BK101));go_ret;exact⟨eS,bw1 HB.out GE101.out⟩
  ·rw [if_neg c6]at H;have c6b0:(a0_0==2)=false:=beq_eq_false_iff_ne.mpr c6;have c6b1:(a0_0 !=2)=true:=bne_iff_ne.mpr c6;by_cases c9:a0_0=3;·rw [if_pos c9]at H;have c9b0:(a0_0==3)=true:=beq_iff_eq.mpr c9;have c9b1:(a0_0 !=3)=false:=bne_eq_false_iff_eq.mpr c9;clear c9;obtain rfl:=Option.some.inj H;go_enter Try.func33,Try.ntmps33;go_wp2_with (first|((with_reducible refine gate_dst (N:=1) rfl ?_);refine box_event ?hg (N:=1) ?hd (cs:= #[.int .u8 a0_0,.int .i64 a0_1]) (t:=30) ?hr ?_;(case hd=>rfl);(case hg=>rfl);(case hr=>first|(go_simp;done)|(go_simp;rfl));intro gb101 hg w10 hbox hb;have n0_:=Bs0 HB hb;have n1_:=Ax (hbox);have n2_:=Gw0 HB hg;have n3_:=Gw0 HB hg;clear HB;have HB:=n0_;have BK101:=n1_;have GW101:=n2_;have GE101:=n3_;clear n0_ n1_ n2_ n3_;clear hb hbox hg;obtain⟨hcz11_0,hcz11_1,hfz11_0,hfz11_1⟩:=cl2 BK101));go_ret;exact⟨eS,bw1 HB.out GE101.out⟩
   ·rw [if_neg c9]at H;have c9b0:(a0_0==3)=false:=beq_eq_false_iff_ne.mpr c9;have c9b1:(a0_0 !=3)=true:=bne_iff_ne.mpr c9;obtain rfl:=Option.some.inj H;go_enter Try.func33,Try.ntmps33;go_wp2_with (first|((with_reducible refine gate_dst (N:=1) rfl ?_);refine box_event ?hg (N:=1) ?hd (cs:= #[.int .u8 a0_0,.int .i64 a0_1]) (t:=30) ?hr ?_;(case hd=>rfl);(case hg=>rfl);(case hr=>first|(go_simp;done)|(go_simp;rfl));intro gb101 hg w12 hbox hb;have n0_:=Bs0 HB hb;have n1_:=Ax (hbox);have n2_:=Gw0 HB hg;have n3_:=Gw0 HB hg;clear HB;have HB:=n0_;have BK101:=n1_;have GW101:=n2_;have GE101:=n3_;clear n0_ n1_ n2_ n3_;clear hb hbox hg;obtain⟨hcz13_0,hcz13_1,hfz13_0,hfz13_1⟩:=cl2 BK101));go_ret;exact⟨eS,bw1 HB.out GE101.out⟩
def addr_Wide.f (a0:Bool):Option (Int):=if a0=true then (some 128) else (some 32)
set_option maxHeartbeats 8000000 in
set_option maxRecDepth 100000 in
theorem addr_Wide.calls (a0:Bool) (r:Int) (w:World) (h:addr_Wide.f a0=some r):
  Calls Try.prog 39 #[.bool a0] w fun e w'=>e= .returned (.int .i64 r)∧Drawn0 w w':=by
 have H:(if a0=true then (some 128) else (some 32))=some r:=h;clear h;by_cases c2:a0=true
 ·subst c2;have H1:(some 128)=some r:=by rw [if_pos rfl]at H;exact H
  clear H;have H:=H1;clear H1;obtain rfl:=Option.some.inj H;go_enter Try.func39,Try.ntmps39;go_wp2;go_ret;exact⟨by first|rfl|(simp;done)|(simp [*];done),by repeat (first|exact Drawn0.refl _|apply Drawn0.step)⟩
 ·replace c2:=Bool.eq_false_iff.mpr c2;subst c2;have H1:(some 32)=some r:=by rw [if_neg (show ¬ (false=true) by decide)]at H;exact H
  clear H;have H:=H1;clear H1;obtain rfl:=Option.some.inj H;go_enter Try.func39,Try.ntmps39;go_wp2;go_ret;exact⟨by first|rfl|(simp;done)|(simp [*];done),by repeat (first|exact Drawn0.refl _|apply Drawn0.step)⟩
def addr_Right.f (a0:Bool) (a1_0:Int) (a1_1:Int):Option (Bool):=if a0=true then (some true) else (if a1_0=0 then (some ((a1_1 / 4294967296)==0)) else (some false))
set_option maxHeartbeats 8000000 in
set_option maxRecDepth 100000 in
theorem addr_Right.calls (a0:Bool) (a1_0:Int) (a1_1:Int) (r:Bool) (w:World) (h:addr_Right.f a0 a1_0 a1_1=some r):
  Calls Try.prog 45 #[.bool a0,.agg #[.int .u64 a1_0,.int .u64 a1_1]] w fun e w'=>e= .returned (.bool r)∧Below w.heap.size w w':=by
 have hu25:=Try.underlying25;have HB:=Ax (Below.refl w.heap.size w);have H:(if a0=true then (some true) else (if a1_0=0 then (some ((a1_1 / 4294967296)==0)) else (some false)))=some r:=h;clear h;by_cases c3:a0=true
 ·subst c3;have H1:(some true)=some r:=by rw [if_pos rfl]at H;exact H
  clear H;have H:=H1;clear H1;obtain rfl:=Option.some.inj H;go_enter Try.func45,Try.ntmps45;go_wp2_with (first|((with_reducible refine gate_dst (N:=3) rfl ?_);refine box_event ?hg (N:=3) ?hd (cs:= #[.int .u64 a1_0,.int .u64 a1_1]) (t:=25) ?hr ?_;(case hd=>rfl);(case hg=>rfl);(case hr=>first|(go_simp;done)|(go_simp;rfl));intro gb103 hg w4 hbox hb;have n0_:=Bs0 HB hb;have n1_:=Ax (hbox);have n2_:=Gw0 HB hg;have n3_:=Gw0 HB hg;clear HB;have HB:=n0_;have BK103:=n1_;have GW103:=n2_;have GE103:=n3_;clear n0_ n1_ n2_ n3_;clear hb hbox hg));go_ret;exact⟨eS,bw1 HB.out GE103.out⟩
 ·replace c3:=Bool.eq_false_iff.mpr c3;subst c3;have H1:(if a1_0=0 then (some ((a1_1 / 4294967296)==0)) else (some false))=some r:=by rw [if_neg (show ¬ (false=true) by decide)]at H;exact H
  clear H;have H:=H1;clear H1;by_cases c5:a1_0=0;·rw [if_pos c5]at H;have c5b0:(a1_0==0)=true:=beq_iff_eq.mpr c5;have c5b1:(a1_0 !=0)=false:=bne_eq_false_iff_eq.mpr c5;clear c5;obtain rfl:=Option.some.inj H;go_enter Try.func45,Try.ntmps45;go_wp2_with (first|((with_reducible refine gate_dst (N:=3) rfl ?_);refine box_event ?hg (N:=3) ?hd (cs:= #[.int .u64 a1_0,.int .u64 a1_1]) (t:=25) ?hr ?_;(case hd=>rfl);(case hg=>rfl);(case hr=>first|(go_simp;done)|(go_simp;rfl));intro gb103 hg w6 hbox hb;have n0_:=Bs0 HB hb;have n1_:=Ax (hbox);have n2_:=Gw0 HB hg;have n3_:=Gw0 HB hg;clear HB;have HB:=n0_;have BK103:=n1_;have GW103:=n2_;have GE103:=n3_;clear n0_ n1_ n2_ n3_;clear hb hbox hg;obtain⟨hcz7_0,hcz7_1,hfz7_0,hfz7_1⟩:=cl2 BK103));go_ret;exact⟨eS,bw1 HB.out GE103.out⟩
  ·rw [if_neg c5]at H;have c5b0:(a1_0==0)=false:=beq_eq_false_iff_ne.mpr c5;have c5b1:(a1_0 !=0)=true:=bne_iff_ne.mpr c5;obtain rfl:=Option.some.inj H;go_enter Try.func45,Try.ntmps45;go_wp2_with (first|((with_reducible refine gate_dst (N:=3) rfl ?_);refine box_event ?hg (N:=3) ?hd (cs:= #[.int .u64 a1_0,.int .u64 a1_1]) (t:=25) ?hr ?_;(case hd=>rfl);(case hg=>rfl);(case hr=>first|(go_simp;done)|(go_simp;rfl));intro gb103 hg w8 hbox hb;have n0_:=Bs0 HB hb;have n1_:=Ax (hbox);have n2_:=Gw0 HB hg;have n3_:=Gw0 HB hg;clear HB;have HB:=n0_;have BK103:=n1_;have GW103:=n2_;have GE103:=n3_;clear n0_ n1_ n2_ n3_;clear hb hbox hg;obtain⟨hcz9_0,hcz9_1,hfz9_0,hfz9_1⟩:=cl2 BK103));go_ret;exact⟨eS,bw1 HB.out GE103.out⟩
def addr_below.f (a0:Int):Option (Int × Int):=if a0 ≥ 128 then (some (18446744073709551615,18446744073709551615)) else (if a0 ≥ 64 then (if 0≤(wrap64 (a0 - 64)) then (some (IntKind.u64.wrap ((shl .u64 1 (wrap64 (a0 - 64))) - 1),18446744073709551615)) else (none)) else (if 0≤a0 then (some (0,IntKind.u64.wrap ((shl .u64 1 a0) - 1))) else (none)))
set_option maxHeartbeats 8000000 in
set_option maxRecDepth 100000 in
theorem addr_below.calls (a0:Int) (r1:Int) (r2:Int) (w:World) (h:addr_below.f a0=some (r1,r2)):
  Calls Try.prog 50 #[.int .i64 a0] w fun e w'=>e= .returned (.agg #[.int .u64 r1,.int .u64 r2])∧Below w.heap.size w w':=by
 have hu25:=Try.underlying25;have HB:=Ax (Below.refl w.heap.size w);have H:(if a0 ≥ 128 then (some (18446744073709551615,18446744073709551615)) else (if a0 ≥ 64 then (if 0≤(wrap64 (a0 - 64)) then (some (IntKind.u64.wrap ((shl .u64 1 (wrap64 (a0 - 64))) - 1),18446744073709551615)) else (none)) else (if 0≤a0 then (some (0,IntKind.u64.wrap ((shl .u64 1 a0) - 1))) else (none))))=some (r1,r2):=h;clear h;by_cases c2:a0 ≥ 128;·rw [if_pos c2]at H;have c2b0:decide (128≤a0)=true:=decide_eq_true c2;clear c2;simp only[Option.some.injEq,Prod.mk.injEq]at H;obtain⟨rfl,rfl⟩:=H;go_enter Try.func50,Try.ntmps50;go_wp2_with (first|((with_reducible refine gate_dst (N:=2) rfl ?_);refine box_event ?hg (N:=2) ?hd (cs:= #[.int .u64 0,.int .u64 0]) (t:=25) ?hr ?_;(case hd=>rfl);(case hg=>rfl);(case hr=>first|(go_simp;done)|(go_simp;rfl));intro gb104 hg w3 hbox hb;have n0_:=Bs0 HB hb;have n1_:=Ax (hbox);have n2_:=Gw0 HB hg;have n3_:=Gw0 HB hg;clear HB;have HB:=n0_;have BK104:=n1_;have GW104:=n2_;have GE104:=n3_;clear n0_ n1_ n2_ n3_;clear hb hbox hg;obtain⟨hcz4_0,hcz4_1,hfz4_0,hfz4_1⟩:=cl2 BK104));refine bodyPost_ret (results_cell_row rfl _ _ gb104 25 #[.int .u64 18446744073709551615,.int .u64 18446744073709551615] (0,0) _ rfl (gB BK104.out) Try.underlying25 rfl (by kernel_rfl)) rfl ?_;exact⟨eS,bw1 HB.out GE104.out⟩
 ·rw [if_neg c2]at H;have c2b0:decide (128≤a0)=false:=decide_eq_false c2;clear c2;by_cases c5:a0 ≥ 64
  ·rw [if_pos c5]at H;have c5b0:decide (64≤a0)=true:=decide_eq_true c5;clear c5;obtain⟨ji6,hji6⟩: ∃ j_:Int,(wrap64 (a0 - 64))=j_:=⟨_,rfl⟩;replace H:(if 0≤(ji6) then (some (IntKind.u64.wrap ((shl .u64 1 (ji6)) - 1),18446744073709551615)) else (none))=some (r1,r2):=by first|(rw [hji6]at H;exact H)|(simp only[hji6]at H ⊢;exact H)
   have hji6w:(IntKind.i64.wrap (a0 - 64))=ji6:=(i64_w _).trans hji6;by_cases c7:0≤(ji6)
   ·rw [if_pos c7]at H;have c7b0:=eq_true c7;have c7b1:decide (0≤(ji6))=true:=decide_eq_true c7;clear c7;obtain⟨ji8,hji8⟩: ∃ j_:Int,(shl .u64 1 (ji6))=j_:=⟨_,rfl⟩;replace H:(some (IntKind.u64.wrap ((ji8) - 1),18446744073709551615))=some (r1,r2):=by first|(rw [hji8]at H;exact H)|(simp only[hji8]at H ⊢;exact H)
    have hji8_:(IntKind.u64.wrap (1 * 2 ^ min (ji6).toNat 64))=ji8:=hji8;have hji8z:(ji6)≤64→(IntKind.u64.wrap (1 * 2 ^ (ji6).toNat))=ji8:=shl_small hji8;have hji8u:(IntKind.u64.wrap (2 ^ min (ji6).toNat 64))=ji8:=by have h_:=hji8_;rw [Int.one_mul]at h_;exact h_
    have hji8v:(ji6)≤64→(IntKind.u64.wrap (2 ^ (ji6).toNat))=ji8:=fun hle_=>by have h_:=hji8z hle_;rw [Int.one_mul]at h_;exact h_
    simp only[Option.some.injEq,Prod.mk.injEq]at H;obtain⟨rfl,rfl⟩:=H;go_enter Try.func50,Try.ntmps50;go_wp2_with (first|((with_reducible refine gate_dst (N:=2) rfl ?_);refine box_event ?hg (N:=2) ?hd (cs:= #[.int .u64 0,.int .u64 0]) (t:=25) ?hr ?_;(case hd=>rfl);(case hg=>rfl);(case hr=>first|(go_simp;done)|(go_simp;rfl));intro gb104 hg w9 hbox hb;have n0_:=Bs0 HB hb;have n1_:=Ax (hbox);have n2_:=Gw0 HB hg;have n3_:=Gw0 HB hg;clear HB;have HB:=n0_;have BK104:=n1_;have GW104:=n2_;have GE104:=n3_;clear n0_ n1_ n2_ n3_;clear hb hbox hg;obtain⟨hcz10_0,hcz10_1,hfz10_0,hfz10_1⟩:=cl2 BK104));refine bodyPost_ret (results_cell_row rfl _ _ gb104 25 #[.int .u64 (IntKind.u64.wrap ((ji8) - 1)),.int .u64 18446744073709551615] (0,0) _ rfl (gB BK104.out) Try.underlying25 rfl (by kernel_rfl)) rfl ?_;exact⟨by first|rfl|(simp [errW_none,errW_some] <;> rfl)|(simp only[← hji6, ← hji8];first|rfl|(simp [errW_none,errW_some] <;> rfl))|(simp [*,errW_none,errW_some] <;> rfl),bw1 HB.out GE104.out⟩
   ·rw [if_neg c7]at H;exact absurd H (by simp)
  ·rw [if_neg c5]at H;have c5b0:decide (64≤a0)=false:=decide_eq_false c5;clear c5;by_cases c11:0≤a0
   ·rw [if_pos c11]at H;have c11b0:=eq_true c11;have c11b1:decide (0≤a0)=true:=decide_eq_true c11;clear c11;obtain⟨ji12,hji12⟩: ∃ j_:Int,(shl .u64 1 a0)=j_:=⟨_,rfl⟩;replace H:(some (0,IntKind.u64.wrap ((ji12) - 1)))=some (r1,r2):=by first|(rw [hji12]at H;exact H)|(simp only[hji12]at H ⊢;exact H)
    have hji12_:(IntKind.u64.wrap (1 * 2 ^ min a0.toNat 64))=ji12:=hji12;have hji12z:a0≤64→(IntKind.u64.wrap (1 * 2 ^ a0.toNat))=ji12:=shl_small hji12;have hji12u:(IntKind.u64.wrap (2 ^ min a0.toNat 64))=ji12:=by have h_:=hji12_;rw [Int.one_mul]at h_;exact h_
    have hji12v:a0≤64→(IntKind.u64.wrap (2 ^ a0.toNat))=ji12:=fun hle_=>by have h_:=hji12z hle_;rw [Int.one_mul]at h_;exact h_
    simp only[Option.some.injEq,Prod.mk.injEq]at H;obtain⟨rfl,rfl⟩:=H;go_enter Try.func50,Try.ntmps50;go_wp2_with (first|((with_reducible refine gate_dst (N:=2) rfl ?_);refine box_event ?hg (N:=2) ?hd (cs:= #[.int .u64 0,.int .u64 0]) (t:=25) ?hr ?_;(case hd=>rfl);(case hg=>rfl);(case hr=>first|(go_simp;done)|(go_simp;rfl));intro gb104 hg w13 hbox hb;have n0_:=Bs0 HB hb;have n1_:=Ax (hbox);have n2_:=Gw0 HB hg;have n3_:=Gw0 HB hg;clear HB;have HB:=n0_;have BK104:=n1_;have GW104:=n2_;have GE104:=n3_;clear n0_ n1_ n2_ n3_;clear hb hbox hg;obtain⟨hcz14_0,hcz14_1,hfz14_0,hfz14_1⟩:=cl2 BK104));refine bodyPost_ret (results_cell_row rfl _ _ gb104 25 #[.int .u64 0,.int .u64 (IntKind.u64.wrap ((ji12) - 1))] (0,0) _ rfl (gB BK104.out) Try.underlying25 rfl (by kernel_rfl)) rfl ?_;exact⟨by first|rfl|(simp [errW_none,errW_some] <;> rfl)|(simp only[← hji12];first|rfl|(simp [errW_none,errW_some] <;> rfl))|(simp [*,errW_none,errW_some] <;> rfl),bw1 HB.out GE104.out⟩
   ·rw [if_neg c11]at H;exact absurd H (by simp)
def addr_host.f (a0_0:Bool) (a0_1:Int) (a0_2:Int) (a0_3:Int):Option (Int × Int):=(addr_Wide.f a0_0).bind fun t107=>((addr_below.f (wrap64 (t107 - a0_3))).bind fun bt108=>(some (bt108.1,bt108.2)))
def addr_host.T1:Bool × List (List Nat × List Nat):=(true, [([], []),([0], [0]),([1], [1]),([], []),([3], [3]),([2,4], [2,4]),([5,2], [5]),([6,6,0,1,2,3,4,5,6], [6])])
def addr_host.B1:List Nat:= [0,1,3,0,8,31,63,127]
theorem addr_host.tab1:rtab .any (opsOf Try.f46 1)=addr_host.T1:=by kernel_rfl
theorem addr_host.bits1:waitsOk addr_host.T1.2 addr_host.B1=true:=by kernel_rfl
set_option maxHeartbeats 8000000 in
set_option maxRecDepth 100000 in
theorem addr_host.calls (a0_0:Bool) (a0_1:Int) (a0_2:Int) (a0_3:Int) (r1:Int) (r2:Int) (w:World) (h:addr_host.f a0_0 a0_1 a0_2 a0_3=some (r1,r2)):
  Calls Try.prog 46 #[.agg #[.bool a0_0,.int .u64 a0_1,.int .u64 a0_2,.int .i64 a0_3]] w fun e w'=>e= .returned (.agg #[.int .u64 r1,.int .u64 r2])∧Below w.heap.size w w':=by
 have hu27:=Try.underlying27;have hu25:=Try.underlying25;have HB:=Ax (Below.refl w.heap.size w);have H:((addr_Wide.f a0_0).bind fun t107=>((addr_below.f (wrap64 (t107 - a0_3))).bind fun bt108=>(some (bt108.1,bt108.2))))=some (r1,r2):=h;clear h;replace H:=Option.bind_eq_some_iff.mp H;obtain⟨t107,A20,H⟩:=H;replace H:((addr_below.f (wrap64 (t107 - a0_3))).bind fun bt108=>(some (bt108.1,bt108.2)))=some (r1,r2):=H;have A2:=Ax A20;clear A20;replace H:=Option.bind_eq_some_iff.mp H;obtain⟨⟨t108,t109⟩,A30,H⟩:=H;replace H:(some (t108,t109))=some (r1,r2):=H;have A3:=Ax A30;clear A30;simp only[Option.some.injEq,Prod.mk.injEq]at H;obtain⟨rfl,rfl⟩:=H;go_enter Try.func46,Try.ntmps46;try go_wp2_with (first|((with_reducible refine gate_dst (N:=1) rfl ?_);refine box_event ?hg (N:=1) ?hd (cs:= #[.bool a0_0,.int .u64 a0_1,.int .u64 a0_2,.int .i64 a0_3]) (t:=27) ?hr ?_;(case hd=>rfl);(case hg=>rfl);(case hr=>first|(go_simp;done)|(go_simp;rfl));intro gb105 hg w4 hbox hb;have n0_:=Bs0 HB hb;have n1_:=Ax (hbox);have n2_:=Gw0 HB hg;have n3_:=Gw0 HB hg;clear HB;have HB:=n0_;have BK105:=n1_;have GW105:=n2_;have GE105:=n3_;clear n0_ n1_ n2_ n3_;clear hb hbox hg)|((with_reducible refine gate_dst (N:=2) rfl ?_);refine box_event ?hg (N:=2) ?hd (cs:= #[.int .u64 0,.int .u64 0]) (t:=25) ?hr ?_;(case hd=>rfl);(case hg=>rfl);(case hr=>first|(go_simp;done)|(go_simp;rfl));intro gb106 hg w5 hbox hb;have n0_:=Bx0 BK105 hb;have n1_:=Bs1 HB hb GE105.out;have n2_:=Ax (hbox);have n3_:=Gw1 HB hg GE105.out;have n4_:=Gw1 HB hg GE105.out;have n5_:=Nl0 BK105 hg;have n6_:=Nr0 BK105 hg;clear BK105;clear HB;have BK105:=n0_;have HB:=n1_;have BK106:=n2_;have GW106:=n3_;have GE106:=n4_;have NB105_106:=n5_;have NB106_105:=n6_;clear n0_ n1_ n2_ n3_ n4_ n5_ n6_;clear hb hbox hg))
 replace BK105:=Ax (blk_drew BK105.out);replace BK106:=Ax (blk_drew BK106.out);replace HB:=Ax (below_drew1 HB.out);refine start_ (n:=8) (S:=fun w'=>w'.cell? ⟨gb105,0,none⟩=some (.bool a0_0)∧w'.cell? ⟨gb105,1,none⟩=some (.int .u64 a0_1)∧w'.cell? ⟨gb105,2,none⟩=some (.int .u64 a0_2)∧w'.cell? ⟨gb105,3,none⟩=some (.int .i64 a0_3)) (ds:= []) #[fa,fa,fa,fa,fa,fa,fa,fa] (by kernel_rfl) rfl rfl (bqc4 BK105.out) (fun hHeld=>?_);refine with_tabW addr_host.tab1 addr_host.bits1 (fun HT_ HW_=>?_);generalize w5.drew=w6 at BK105 BK106 HB hHeld ⊢;refine pz 0 3 #[tr,fa,fa,fa,fa,fa,fa,fa] HT_.out ?_
 refine pz 3 6 #[tr,fa,fa,tr,fa,fa,fa,fa] HT_.out ?_
 refine take_ (i:=1) (N:=some 4) (v:=?_) (a':=?_) #[tr,tr,fa,tr,fa,fa,fa,fa] rfl rfl (take_ofW HT_.out HW_.out (by kernel_rfl)) (fun _ _ _ h=>h) (Or.inl ⟨by rfl,?_⟩) hHeld ?_ ?_;rotate_left
 ·rintro w' ⟨s0,s1,s2,s3⟩
  go_simp;with_reducible rfl
 rotate_left;·simp only[sP];rfl
 refine take_ (i:=4) (N:=some 7) (v:=?_) (a':=?_) #[tr,tr,fa,tr,tr,fa,fa,fa] rfl rfl (take_ofW HT_.out HW_.out (by kernel_rfl)) (fun _ _ _ h=>h) (Or.inl ⟨by rfl,?_⟩) hHeld ?_ ?_;rotate_left
 ·rintro w' ⟨s0,s1,s2,s3⟩
  go_simp;with_reducible rfl
 rotate_left;·simp only[sP];rfl
 refine one_ (i:=2) (N:=some 5) #[tr,tr,tr,tr,tr,fa,fa,fa] rfl rfl (one_of HT_.out (by kernel_rfl)) (by decide) (fun K hK=>?_);refine goes_ Try.func39 (by kernel_rfl) rfl #[.bool a0_0] (by rfl) rfl rfl gS ?_;with_reducible refine (addr_Wide.calls a0_0 t107 _ A2.out).mono ?_
 rintro e w' ⟨rfl,⟨nd,rfl⟩⟩
 refine⟨_,rfl,?_⟩;refine hK.out _ _ (bqc4 BK105.out) (fun hHeld=>?_);clear hK K;refine norm_ (a':=?_) ?_ ?_;rotate_left
 ·show Act.put _ (some 5) _=_
  simp only[sP];rfl
 refine pz 5 8 #[tr,tr,tr,tr,tr,tr,fa,fa] HT_.out ?_
 refine one_ (i:=6) (N:=some 9) #[tr,tr,tr,tr,tr,tr,tr,fa] rfl rfl (one_of HT_.out (by kernel_rfl)) (by decide) (fun K hK=>?_);refine goes_ Try.func50 (by kernel_rfl) rfl #[.int .i64 (wrap64 (t107 - a0_3))] (by rfl) rfl rfl gS ?_;with_reducible refine (addr_below.calls (wrap64 (t107 - a0_3)) t108 t109 _ A3.out).mono ?_
 rintro e w7 ⟨rfl,hb⟩
 refine⟨_,rfl,?_⟩;replace BK105:=Bx0 BK105 hb;replace BK106:=Bx0 BK106 hb;replace HB:=Bs2 HB hb GE105.out GE106.out
 (try clear hb)
 refine hK.out _ _ (bqc4 BK105.out) (fun hHeld=>?_);clear hK K;refine norm_ (a':=?_) ?_ ?_;rotate_left
 ·show Act.put _ (some 9) _=_
  simp only[sP];rfl
 refine one_ (i:=7) (N:=none) #[tr,tr,tr,tr,tr,tr,tr,tr] rfl rfl (one_of HT_.out (by kernel_rfl)) (by decide) (fun K hK=>?_);have hs8:w7.cell? ⟨gb106,0,none⟩=some (.int .u64 0):=(blk_cell BK106.out 0).trans rfl;have hfs8:=blk_frozen BK106.out 0;have hns8_0:=NB105_106.out;have hms8_0:=NB106_105.out;have hs9:w7.cell? ⟨gb106,1,none⟩=some (.int .u64 0):=(blk_cell BK106.out 1).trans rfl;have hfs9:=blk_frozen BK106.out 1;have hns9_0:=NB105_106.out;have hms9_0:=NB106_105.out;refine skip_ (w1:=?_) (by rfl) rfl ?_ ?_;rotate_left;·go_simp;rfl
 refine hK.out _ _ ⟨(cqf NB105_106.out ((cqf NB105_106.out (hHeld.1)))),(cqf NB105_106.out ((cqf NB105_106.out (hHeld.2.1)))),(cqf NB105_106.out ((cqf NB105_106.out (hHeld.2.2.1)))),(cqf NB105_106.out ((cqf NB105_106.out (hHeld.2.2.2))))⟩ (fun hHeld=>?_);clear hK K;refine done_ (done_of HT_.out (by kernel_rfl)) ?_;try go_wp2
 refine bodyPost_ret (results_cell_row rfl _ _ gb106 25 #[.int .u64 t108,.int .u64 t109] (0,0) _ rfl (gB BK106.out) Try.underlying25 rfl (by kernel_rfl)) rfl ?_;exact⟨eS,bw2 HB.out GE105.out GE106.out⟩
def addr_Check.j0 : Nat → Bool → Bool → Int → Int → Int → Option (Int)
 | 0, _, _, _, _, _ => none
 | k + 1, x22, x111000, x111001, x111002, x111003 => if x22 = true then (some 2) else ((addr_host.f x111000 x111001 x111002 x111003).bind fun bt113 => (if (Go.bits .or .u64 (Go.bits .and .u64 x111001 bt113.1) (Go.bits .and .u64 x111002 bt113.2)) = 0 then (some 0) else (some 2)))
def addr_Check.f (k:Nat) (a0_0:Bool) (a0_1:Int) (a0_2:Int) (a0_3:Int):Option (Int):=if a0_3<0 then (addr_Check.j0 k true a0_0 a0_1 a0_2 a0_3) else ((addr_Wide.f a0_0).bind fun t111=>(if a0_3 > t111 then (addr_Check.j0 k true a0_0 a0_1 a0_2 a0_3) else ((addr_Right.f a0_0 a0_1 a0_2).bind fun t112=>(addr_Check.j0 k (!t112) a0_0 a0_1 a0_2 a0_3))))
theorem addr_Check.mono_l: ∀ k,(∀ y0 y1 y2 y3 y4,LeO (addr_Check.j0 k y0 y1 y2 y3 y4) (addr_Check.j0 (k+1) y0 y1 y2 y3 y4))
 |0=>fun _ _ _ _ _ r h=>by simp [addr_Check.j0]at h
 |k+1=>by
  have ih0:=addr_Check.mono_l k
  ·intro y0 y1 y2 y3 y4;unfold addr_Check.j0
   repeat' first
   |(with_reducible exact ih0 _ _ _ _ _)
   |(with_reducible exact LeO.refl _)
   |(with_reducible exact LeO.none _)
   |(with_reducible refine LeO.ite ?_ ?_)
   |(with_reducible refine LeO.bind ?_ (fun _=>?_))
   |exact ih0 _ _ _ _ _
   |exact LeO.none _
   |refine LeO.ite ?_ ?_
   |refine LeO.bind ?_ (fun _=>?_)
theorem addr_Check.mono: ∀ a0 a1 a2 a3 k,LeO (addr_Check.f k a0 a1 a2 a3) (addr_Check.f (k+1) a0 a1 a2 a3):=by
 intro a0 a1 a2 a3 k;have ih0:=addr_Check.mono_l k;unfold addr_Check.f
 repeat' first
   | (with_reducible exact ih0 _ _ _ _ _)
   | (with_reducible exact LeO.refl _)
   | (with_reducible exact LeO.none _)
   | (with_reducible refine LeO.ite ?_ ?_)
   | (with_reducible refine LeO.bind ?_ (fun _ => ?_))
   | exact ih0 _ _ _ _ _
   | exact LeO.none _
   | refine LeO.ite ?_ ?_
   | refine LeO.bind ?_ (fun _ => ?_)
def addr_Check.T1:Bool × List (List Nat × List Nat):=(true, [([], []),([0], [0]),([1], [1]),([2], [2]),([3], [3]),([4,3], [3,4]),([3], [3]),([6,3], [3,6]),([7,3,3], [3,7]),([5,8,3], [3,5,8]),([3,9], [3,9]),([10,8], [10]),([11], [11]),([12,11], [11,12]),([11], [11]),([14,11], [11,14]),([13,15,11,11], [11,13,15]),([16,11], [11,16]),([11,17], [11,17])])
def addr_Check.B1:List Nat:= [0,1,3,7,15,31,15,79,207,511,1023,2047,4095,8191,4095,20479,65535,131071,262143]
theorem addr_Check.tab1:rtab .any (opsOf Try.f34 1)=addr_Check.T1:=by kernel_rfl
theorem addr_Check.bits1:waitsOk addr_Check.T1.2 addr_Check.B1=true:=by kernel_rfl
set_option maxHeartbeats 8000000 in
set_option maxRecDepth 100000 in
theorem addr_Check.calls (k:Nat) (a0_0:Bool) (a0_1:Int) (a0_2:Int) (a0_3:Int) (r:Int) (w:World) (h:addr_Check.f k a0_0 a0_1 a0_2 a0_3=some r):
  Calls Try.prog 34 #[.agg #[.bool a0_0,.int .u64 a0_1,.int .u64 a0_2,.int .i64 a0_3]] w fun e w'=>e= .returned (.int .i64 r)∧Below w.heap.size w w':=by
 have hu27:=Try.underlying27;have hu25:=Try.underlying25;have HB:=Ax (Below.refl w.heap.size w);have H:(if a0_3<0 then (addr_Check.j0 k true a0_0 a0_1 a0_2 a0_3) else ((addr_Wide.f a0_0).bind fun t111=>(if a0_3 > t111 then (addr_Check.j0 k true a0_0 a0_1 a0_2 a0_3) else ((addr_Right.f a0_0 a0_1 a0_2).bind fun t112=>(addr_Check.j0 k (!t112) a0_0 a0_1 a0_2 a0_3)))))=some r:=h;clear h;have HC2:=Ax H;clear H;go_enter Try.func34,Try.ntmps34;go_upto_region 1 with (first|((with_reducible refine gate_dst (N:=1) rfl ?_);refine box_event ?hg (N:=1) ?hd (cs:= #[.bool a0_0,.int .u64 a0_1,.int .u64 a0_2,.int .i64 a0_3]) (t:=27) ?hr ?_;(case hd=>rfl);(case hg=>rfl);(case hr=>first|(go_simp;done)|(go_simp;rfl));intro gb110 hg w3 hbox hb;have n0_:=Bs0 HB hb;have n1_:=Ax (hbox);have n2_:=Gw0 HB hg;have n3_:=Gw0 HB hg;clear HB;have HB:=n0_;have BK110:=n1_;have GW110:=n2_;have GE110:=n3_;clear n0_ n1_ n2_ n3_;clear hb hbox hg))
 (try simp only[Act.put,List.setIfInBounds_toArray,List.set_cons_zero,List.set_cons_succ])
 go_cut [22] (fun v22 wc=> ∃ (kq:Nat) (x22_1:Bool),v22= .bool x22_1∧Aside0 (addr_Check.j0 kq x22_1 a0_0 a0_1 a0_2 a0_3=some r)∧Aside0 (kq≤k)∧Aside0 (wc.heap[gb110]? =some (.cells #[.bool a0_0,.int .u64 a0_1,.int .u64 a0_2,.int .i64 a0_3] 27 (0,0)))∧Aside0 (Below w.heap.size w wc))
 case first=>
  have H:=HC2.out;clear HC2;by_cases c4:a0_3<0
  ·rw [if_pos c4]at H;have c4b0:decide (a0_3<0)=true:=decide_eq_true c4;clear c4
   (first|rw [c4b0]|(simp only[i64_w,i32_w];rw [c4b0])|skip)
   have H':=Ax H;clear H;try go_wp2
   replace BK110:=Ax (blk_drew BK110.out);replace HB:=Ax (below_drew1 HB.out);refine start_ (n:=19) (S:=fun w'=>w'.cell? ⟨gb110,0,none⟩=some (.bool a0_0)∧w'.cell? ⟨gb110,1,none⟩=some (.int .u64 a0_1)∧w'.cell? ⟨gb110,2,none⟩=some (.int .u64 a0_2)∧w'.cell? ⟨gb110,3,none⟩=some (.int .i64 a0_3)) (ds:= []) #[fa,fa,fa,fa,fa,fa,fa,fa,fa,fa,fa,fa,fa,fa,fa,fa,fa,fa,fa] (by kernel_rfl) rfl rfl (bqc4 BK110.out) (fun hHeld=>?_);refine with_tabW addr_Check.tab1 addr_Check.bits1 (fun HT_ HW_=>?_);generalize w3.drew=w5 at BK110 HB hHeld ⊢;refine pz 0 4 #[tr,fa,fa,fa,fa,fa,fa,fa,fa,fa,fa,fa,fa,fa,fa,fa,fa,fa,fa] HT_.out ?_
   refine take_ (i:=1) (N:=some 5) (v:=?_) (a':=?_) #[tr,tr,fa,fa,fa,fa,fa,fa,fa,fa,fa,fa,fa,fa,fa,fa,fa,fa,fa] rfl rfl (take_ofW HT_.out HW_.out (by kernel_rfl)) (fun _ _ _ h=>h) (Or.inl ⟨by rfl,?_⟩) hHeld ?_ ?_;rotate_left
   ·rintro w' ⟨s0,s1,s2,s3⟩
    go_simp;with_reducible rfl
   rotate_left;·simp only[sP];rfl
   refine pz 2 6 #[tr,tr,tr,fa,fa,fa,fa,fa,fa,fa,fa,fa,fa,fa,fa,fa,fa,fa,fa] HT_.out ?_
   refine pz 3 7 #[tr,tr,tr,tr,fa,fa,fa,fa,fa,fa,fa,fa,fa,fa,fa,fa,fa,fa,fa] HT_.out ?_
   refine pu 4 8 #[tr,tr,tr,tr,tr,fa,fa,fa,fa,fa,fa,fa,fa,fa,fa,fa,fa,fa,fa] HT_.out ?_
   refine pu 5 9 #[tr,tr,tr,tr,tr,tr,fa,fa,fa,fa,fa,fa,fa,fa,fa,fa,fa,fa,fa] HT_.out ?_
   refine pu 6 10 #[tr,tr,tr,tr,tr,tr,tr,fa,fa,fa,fa,fa,fa,fa,fa,fa,fa,fa,fa] HT_.out ?_
   refine pu 7 11 #[tr,tr,tr,tr,tr,tr,tr,tr,fa,fa,fa,fa,fa,fa,fa,fa,fa,fa,fa] HT_.out ?_
   refine pu 8 12 #[tr,tr,tr,tr,tr,tr,tr,tr,tr,fa,fa,fa,fa,fa,fa,fa,fa,fa,fa] HT_.out ?_
   refine pu 9 13 #[tr,tr,tr,tr,tr,tr,tr,tr,tr,tr,fa,fa,fa,fa,fa,fa,fa,fa,fa] HT_.out ?_
   refine pz 10 14 #[tr,tr,tr,tr,tr,tr,tr,tr,tr,tr,tr,fa,fa,fa,fa,fa,fa,fa,fa] HT_.out ?_
   refine pz 11 15 #[tr,tr,tr,tr,tr,tr,tr,tr,tr,tr,tr,tr,fa,fa,fa,fa,fa,fa,fa] HT_.out ?_
   refine pu 12 16 #[tr,tr,tr,tr,tr,tr,tr,tr,tr,tr,tr,tr,tr,fa,fa,fa,fa,fa,fa] HT_.out ?_
   refine pu 13 17 #[tr,tr,tr,tr,tr,tr,tr,tr,tr,tr,tr,tr,tr,tr,fa,fa,fa,fa,fa] HT_.out ?_
   refine pu 14 18 #[tr,tr,tr,tr,tr,tr,tr,tr,tr,tr,tr,tr,tr,tr,tr,fa,fa,fa,fa] HT_.out ?_
   refine pu 15 19 #[tr,tr,tr,tr,tr,tr,tr,tr,tr,tr,tr,tr,tr,tr,tr,tr,fa,fa,fa] HT_.out ?_
   refine pu 16 20 #[tr,tr,tr,tr,tr,tr,tr,tr,tr,tr,tr,tr,tr,tr,tr,tr,tr,fa,fa] HT_.out ?_
   refine pu 17 21 #[tr,tr,tr,tr,tr,tr,tr,tr,tr,tr,tr,tr,tr,tr,tr,tr,tr,tr,fa] HT_.out ?_
   refine pz 18 22 #[tr,tr,tr,tr,tr,tr,tr,tr,tr,tr,tr,tr,tr,tr,tr,tr,tr,tr,tr] HT_.out ?_
   refine done_ (done_of HT_.out (by kernel_rfl)) ?_;try go_wp2
   go_meet
   case rel=>exact⟨_,(true),rS,H',⟨by first|omega|exact Nat.le_refl _⟩,⟨bf0 BK110.out⟩,⟨bw1 HB.out GE110.out⟩⟩
  ·rw [if_neg c4]at H;have c4b0:decide (a0_3<0)=false:=decide_eq_false c4;clear c4
   (first|rw [c4b0]|(simp only[i64_w,i32_w];rw [c4b0])|skip)
   replace H:=Option.bind_eq_some_iff.mp H;obtain⟨t111,A60,H⟩:=H;replace H:(if a0_3 > t111 then (addr_Check.j0 k true a0_0 a0_1 a0_2 a0_3) else ((addr_Right.f a0_0 a0_1 a0_2).bind fun t112=>(addr_Check.j0 k (!t112) a0_0 a0_1 a0_2 a0_3)))=some r:=H;have A6:=Ax A60;clear A60;by_cases c7:a0_3 > t111
   ·rw [if_pos c7]at H;have c7b0:decide (t111<a0_3)=true:=decide_eq_true c7;clear c7;have H':=Ax H;clear H;try go_wp2
    replace BK110:=Ax (blk_drew BK110.out);replace HB:=Ax (below_drew1 HB.out);refine start_ (n:=19) (S:=fun w'=>w'.cell? ⟨gb110,0,none⟩=some (.bool a0_0)∧w'.cell? ⟨gb110,1,none⟩=some (.int .u64 a0_1)∧w'.cell? ⟨gb110,2,none⟩=some (.int .u64 a0_2)∧w'.cell? ⟨gb110,3,none⟩=some (.int .i64 a0_3)) (ds:= []) #[fa,fa,fa,fa,fa,fa,fa,fa,fa,fa,fa,fa,fa,fa,fa,fa,fa,fa,fa] (by kernel_rfl) rfl rfl (bqc4 BK110.out) (fun hHeld=>?_);refine with_tabW addr_Check.tab1 addr_Check.bits1 (fun HT_ HW_=>?_);generalize w3.drew=w8 at BK110 HB hHeld ⊢;refine pz 0 4 #[tr,fa,fa,fa,fa,fa,fa,fa,fa,fa,fa,fa,fa,fa,fa,fa,fa,fa,fa] HT_.out ?_
    refine take_ (i:=1) (N:=some 5) (v:=?_) (a':=?_) #[tr,tr,fa,fa,fa,fa,fa,fa,fa,fa,fa,fa,fa,fa,fa,fa,fa,fa,fa] rfl rfl (take_ofW HT_.out HW_.out (by kernel_rfl)) (fun _ _ _ h=>h) (Or.inl ⟨by rfl,?_⟩) hHeld ?_ ?_;rotate_left
    ·rintro w' ⟨s0,s1,s2,s3⟩
     go_simp;with_reducible rfl
    rotate_left;·simp only[sP];rfl
    refine pz 2 6 #[tr,tr,tr,fa,fa,fa,fa,fa,fa,fa,fa,fa,fa,fa,fa,fa,fa,fa,fa] HT_.out ?_
    refine pz 3 7 #[tr,tr,tr,tr,fa,fa,fa,fa,fa,fa,fa,fa,fa,fa,fa,fa,fa,fa,fa] HT_.out ?_
    refine pz 4 8 #[tr,tr,tr,tr,tr,fa,fa,fa,fa,fa,fa,fa,fa,fa,fa,fa,fa,fa,fa] HT_.out ?_
    refine pz 6 10 #[tr,tr,tr,tr,tr,fa,tr,fa,fa,fa,fa,fa,fa,fa,fa,fa,fa,fa,fa] HT_.out ?_
    refine take_ (i:=5) (N:=some 9) (v:=?_) (a':=?_) #[tr,tr,tr,tr,tr,tr,tr,fa,fa,fa,fa,fa,fa,fa,fa,fa,fa,fa,fa] rfl rfl (take_ofW HT_.out HW_.out (by kernel_rfl)) (fun _ _ _ h=>h) (Or.inl ⟨by rfl,?_⟩) hHeld ?_ ?_;rotate_left
    ·rintro w' ⟨s0,s1,s2,s3⟩
     go_simp;with_reducible rfl
    rotate_left;·simp only[sP];rfl
    refine take_ (i:=7) (N:=some 11) (v:=?_) (a':=?_) #[tr,tr,tr,tr,tr,tr,tr,tr,fa,fa,fa,fa,fa,fa,fa,fa,fa,fa,fa] rfl rfl (take_ofW HT_.out HW_.out (by kernel_rfl)) (fun _ _ _ h=>h) (Or.inl ⟨by rfl,?_⟩) hHeld ?_ ?_;rotate_left
    ·rintro w' ⟨s0,s1,s2,s3⟩
     go_simp;with_reducible rfl
    rotate_left;·simp only[sP];rfl
    refine one_ (i:=8) (N:=some 12) #[tr,tr,tr,tr,tr,tr,tr,tr,tr,fa,fa,fa,fa,fa,fa,fa,fa,fa,fa] rfl rfl (one_of HT_.out (by kernel_rfl)) (by decide) (fun K hK=>?_);refine goes_ Try.func39 (by kernel_rfl) rfl #[.bool a0_0] (by rfl) rfl rfl gS ?_;with_reducible refine (addr_Wide.calls a0_0 t111 _ A6.out).mono ?_
    rintro e w' ⟨rfl,⟨nd,rfl⟩⟩
    refine⟨_,rfl,?_⟩;refine hK.out _ _ (bqc4 BK110.out) (fun hHeld=>?_);clear hK K;refine norm_ (a':=?_) ?_ ?_;rotate_left
    ·show Act.put _ (some 12) _=_
     simp only[sP];rfl
    refine pz 9 13 #[tr,tr,tr,tr,tr,tr,tr,tr,tr,tr,fa,fa,fa,fa,fa,fa,fa,fa,fa] HT_.out ?_
    refine pz 10 14 #[tr,tr,tr,tr,tr,tr,tr,tr,tr,tr,tr,fa,fa,fa,fa,fa,fa,fa,fa] HT_.out ?_
    refine pz 11 15 #[tr,tr,tr,tr,tr,tr,tr,tr,tr,tr,tr,tr,fa,fa,fa,fa,fa,fa,fa] HT_.out ?_
    refine pu 12 16 #[tr,tr,tr,tr,tr,tr,tr,tr,tr,tr,tr,tr,tr,fa,fa,fa,fa,fa,fa] HT_.out ?_
    refine pu 13 17 #[tr,tr,tr,tr,tr,tr,tr,tr,tr,tr,tr,tr,tr,tr,fa,fa,fa,fa,fa] HT_.out ?_
    refine pu 14 18 #[tr,tr,tr,tr,tr,tr,tr,tr,tr,tr,tr,tr,tr,tr,tr,fa,fa,fa,fa] HT_.out ?_
    refine pu 15 19 #[tr,tr,tr,tr,tr,tr,tr,tr,tr,tr,tr,tr,tr,tr,tr,tr,fa,fa,fa] HT_.out ?_
    refine pu 16 20 #[tr,tr,tr,tr,tr,tr,tr,tr,tr,tr,tr,tr,tr,tr,tr,tr,tr,fa,fa] HT_.out ?_
    refine pu 17 21 #[tr,tr,tr,tr,tr,tr,tr,tr,tr,tr,tr,tr,tr,tr,tr,tr,tr,tr,fa] HT_.out ?_
    refine pz 18 22 #[tr,tr,tr,tr,tr,tr,tr,tr,tr,tr,tr,tr,tr,tr,tr,tr,tr,tr,tr] HT_.out ?_
    refine done_ (done_of HT_.out (by kernel_rfl)) ?_;try go_wp2
    go_meet
    case rel=>exact⟨_,(true),rS,H',⟨by first|omega|exact Nat.le_refl _⟩,⟨bf0 BK110.out⟩,⟨bw1 HB.out GE110.out⟩⟩
   ·rw [if_neg c7]at H;have c7b0:decide (t111<a0_3)=false:=decide_eq_false c7;clear c7;replace H:=Option.bind_eq_some_iff.mp H;obtain⟨t112,A90,H⟩:=H;replace H:(addr_Check.j0 k (!t112) a0_0 a0_1 a0_2 a0_3)=some r:=H;have A9:=Ax A90;clear A90;have H':=Ax H;clear H;try go_wp2
    replace BK110:=Ax (blk_drew BK110.out);replace HB:=Ax (below_drew1 HB.out);refine start_ (n:=19) (S:=fun w'=>w'.cell? ⟨gb110,0,none⟩=some (.bool a0_0)∧w'.cell? ⟨gb110,1,none⟩=some (.int .u64 a0_1)∧w'.cell? ⟨gb110,2,none⟩=some (.int .u64 a0_2)∧w'.cell? ⟨gb110,3,none⟩=some (.int .i64 a0_3)) (ds:= []) #[fa,fa,fa,fa,fa,fa,fa,fa,fa,fa,fa,fa,fa,fa,fa,fa,fa,fa,fa] (by kernel_rfl) rfl rfl (bqc4 BK110.out) (fun hHeld=>?_);refine with_tabW addr_Check.tab1 addr_Check.bits1 (fun HT_ HW_=>?_);generalize w3.drew=w10 at BK110 HB hHeld ⊢;refine pz 0 4 #[tr,fa,fa,fa,fa,fa,fa,fa,fa,fa,fa,fa,fa,fa,fa,fa,fa,fa,fa] HT_.out ?_
    refine take_ (i:=1) (N:=some 5) (v:=?_) (a':=?_) #[tr,tr,fa,fa,fa,fa,fa,fa,fa,fa,fa,fa,fa,fa,fa,fa,fa,fa,fa] rfl rfl (take_ofW HT_.out HW_.out (by kernel_rfl)) (fun _ _ _ h=>h) (Or.inl ⟨by rfl,?_⟩) hHeld ?_ ?_;rotate_left
    ·rintro w' ⟨s0,s1,s2,s3⟩
     go_simp;with_reducible rfl
    rotate_left;·simp only[sP];rfl
    refine pz 2 6 #[tr,tr,tr,fa,fa,fa,fa,fa,fa,fa,fa,fa,fa,fa,fa,fa,fa,fa,fa] HT_.out ?_
    refine pz 3 7 #[tr,tr,tr,tr,fa,fa,fa,fa,fa,fa,fa,fa,fa,fa,fa,fa,fa,fa,fa] HT_.out ?_
    refine pz 4 8 #[tr,tr,tr,tr,tr,fa,fa,fa,fa,fa,fa,fa,fa,fa,fa,fa,fa,fa,fa] HT_.out ?_
    refine pz 6 10 #[tr,tr,tr,tr,tr,fa,tr,fa,fa,fa,fa,fa,fa,fa,fa,fa,fa,fa,fa] HT_.out ?_
    refine take_ (i:=5) (N:=some 9) (v:=?_) (a':=?_) #[tr,tr,tr,tr,tr,tr,tr,fa,fa,fa,fa,fa,fa,fa,fa,fa,fa,fa,fa] rfl rfl (take_ofW HT_.out HW_.out (by kernel_rfl)) (fun _ _ _ h=>h) (Or.inl ⟨by rfl,?_⟩) hHeld ?_ ?_;rotate_left
    ·rintro w' ⟨s0,s1,s2,s3⟩
     go_simp;with_reducible rfl
    rotate_left;·simp only[sP];rfl
    refine take_ (i:=7) (N:=some 11) (v:=?_) (a':=?_) #[tr,tr,tr,tr,tr,tr,tr,tr,fa,fa,fa,fa,fa,fa,fa,fa,fa,fa,fa] rfl rfl (take_ofW HT_.out HW_.out (by kernel_rfl)) (fun _ _ _ h=>h) (Or.inl ⟨by rfl,?_⟩) hHeld ?_ ?_;rotate_left
    ·rintro w' ⟨s0,s1,s2,s3⟩
     go_simp;with_reducible rfl
    rotate_left;·simp only[sP];rfl
    refine one_ (i:=8) (N:=some 12) #[tr,tr,tr,tr,tr,tr,tr,tr,tr,fa,fa,fa,fa,fa,fa,fa,fa,fa,fa] rfl rfl (one_of HT_.out (by kernel_rfl)) (by decide) (fun K hK=>?_);refine goes_ Try.func39 (by kernel_rfl) rfl #[.bool a0_0] (by rfl) rfl rfl gS ?_;with_reducible refine (addr_Wide.calls a0_0 t111 _ A6.out).mono ?_
    rintro e w' ⟨rfl,⟨nd,rfl⟩⟩
    refine⟨_,rfl,?_⟩;refine hK.out _ _ (bqc4 BK110.out) (fun hHeld=>?_);clear hK K;refine norm_ (a':=?_) ?_ ?_;rotate_left
    ·show Act.put _ (some 12) _=_
     simp only[sP];rfl
    refine pz 9 13 #[tr,tr,tr,tr,tr,tr,tr,tr,tr,tr,fa,fa,fa,fa,fa,fa,fa,fa,fa] HT_.out ?_
    refine pz 10 14 #[tr,tr,tr,tr,tr,tr,tr,tr,tr,tr,tr,fa,fa,fa,fa,fa,fa,fa,fa] HT_.out ?_
    refine pz 11 15 #[tr,tr,tr,tr,tr,tr,tr,tr,tr,tr,tr,tr,fa,fa,fa,fa,fa,fa,fa] HT_.out ?_
    refine pz 12 16 #[tr,tr,tr,tr,tr,tr,tr,tr,tr,tr,tr,tr,tr,fa,fa,fa,fa,fa,fa] HT_.out ?_
    refine pz 14 18 #[tr,tr,tr,tr,tr,tr,tr,tr,tr,tr,tr,tr,tr,fa,tr,fa,fa,fa,fa] HT_.out ?_
    refine take_ (i:=13) (N:=some 17) (v:=?_) (a':=?_) #[tr,tr,tr,tr,tr,tr,tr,tr,tr,tr,tr,tr,tr,tr,tr,fa,fa,fa,fa] rfl rfl (take_ofW HT_.out HW_.out (by kernel_rfl)) (fun _ _ _ h=>h) (Or.inl ⟨by rfl,?_⟩) hHeld ?_ ?_;rotate_left
    ·rintro w' ⟨s0,s1,s2,s3⟩
     go_simp;with_reducible rfl
    rotate_left;·simp only[sP];rfl
    refine take_ (i:=15) (N:=some 19) (v:=?_) (a':=?_) #[tr,tr,tr,tr,tr,tr,tr,tr,tr,tr,tr,tr,tr,tr,tr,tr,fa,fa,fa] rfl rfl (take_ofW HT_.out HW_.out (by kernel_rfl)) (fun _ _ _ h=>h) (Or.inl ⟨by rfl,?_⟩) hHeld ?_ ?_;rotate_left
    ·rintro w' ⟨s0,s1,s2,s3⟩
     go_simp;with_reducible rfl
    rotate_left;·simp only[sP];rfl
    refine one_ (i:=16) (N:=some 20) #[tr,tr,tr,tr,tr,tr,tr,tr,tr,tr,tr,tr,tr,tr,tr,tr,tr,fa,fa] rfl rfl (one_of HT_.out (by kernel_rfl)) (by decide) (fun K hK=>?_);refine goes_ Try.func45 (by kernel_rfl) rfl #[.bool a0_0,.agg #[.int .u64 a0_1,.int .u64 a0_2]] (by rfl) rfl rfl gS ?_;with_reducible refine (addr_Right.calls a0_0 a0_1 a0_2 t112 _ A9.out).mono ?_
    rintro e w11 ⟨rfl,hb⟩
    refine⟨_,rfl,?_⟩;replace BK110:=Bx0 BK110 hb;replace HB:=Bs1 HB hb GE110.out
    (try clear hb)
    refine hK.out _ _ (bqc4 BK110.out) (fun hHeld=>?_);clear hK K;refine norm_ (a':=?_) ?_ ?_;rotate_left
    ·show Act.put _ (some 20) _=_
     simp only[sP];rfl
    refine pz 17 21 #[tr,tr,tr,tr,tr,tr,tr,tr,tr,tr,tr,tr,tr,tr,tr,tr,tr,tr,fa] HT_.out ?_
    refine pz 18 22 #[tr,tr,tr,tr,tr,tr,tr,tr,tr,tr,tr,tr,tr,tr,tr,tr,tr,tr,tr] HT_.out ?_
    refine done_ (done_of HT_.out (by kernel_rfl)) ?_;try go_wp2
    go_meet
    case rel=>exact⟨_,(!t112),rS,H',⟨by first|omega|exact Nat.le_refl _⟩,⟨bf0 BK110.out⟩,⟨bw1 HB.out GE110.out⟩⟩
 case rest=>
  clear HC2;try clear p2
  try clear c3
  try clear c4
  try clear c4b0
  try clear c7
  try clear c7b0
  obtain⟨kq,x22_1,rfl,HA,HJ1,BK110,HB⟩:=hcut;cases kq with
  |zero=>exact absurd HA.out (by simp [addr_Check.j0])
  |succ kj1=>
   have H:=HA.out;clear HA;simp only[addr_Check.j0]at H;by_cases c12:x22_1=true
   ·subst c12;have H1:(some 2)=some r:=by rw [if_pos rfl]at H;exact H
    clear H;have H:=H1;clear H1;obtain rfl:=Option.some.inj H;go_wp2;go_ret;exact⟨eS,bw1 HB.out GE110.out⟩
   ·replace c12:=Bool.eq_false_iff.mpr c12;subst c12;have H1:((addr_host.f a0_0 a0_1 a0_2 a0_3).bind fun bt113=>(if (Go.bits .or .u64 (Go.bits .and .u64 a0_1 bt113.1) (Go.bits .and .u64 a0_2 bt113.2))=0 then (some 0) else (some 2)))=some r:=by rw [if_neg (show ¬ (false=true) by decide)]at H;exact H
    clear H;have H:=H1;clear H1;replace H:=Option.bind_eq_some_iff.mp H;obtain⟨⟨t113,t114⟩,A130,H⟩:=H;replace H:(if (Go.bits .or .u64 (Go.bits .and .u64 a0_1 t113) (Go.bits .and .u64 a0_2 t114))=0 then (some 0) else (some 2))=some r:=H;have A13:=Ax A130;clear A130;by_cases c14:(Go.bits .or .u64 (Go.bits .and .u64 a0_1 t113) (Go.bits .and .u64 a0_2 t114))=0;·rw [if_pos c14]at H;have c14b0:((Go.bits .or .u64 (Go.bits .and .u64 a0_1 t113) (Go.bits .and .u64 a0_2 t114))==0)=true:=beq_iff_eq.mpr c14;have c14b1:((Go.bits .or .u64 (Go.bits .and .u64 a0_1 t113) (Go.bits .and .u64 a0_2 t114)) !=0)=false:=bne_eq_false_iff_eq.mpr c14;clear c14;obtain rfl:=Option.some.inj H;obtain⟨hcz15_0,hcz15_1,hcz15_2,hcz15_3,hfz15_0,hfz15_1,hfz15_2,hfz15_3⟩:=cl4 BK110;go_wp2_with (first|((with_reducible refine gate_callee (f:=46) rfl ?_);refine goesL_ (some 24) rfl rfl Try.func46 (by kernel_rfl) rfl #[.agg #[.bool a0_0,.int .u64 a0_1,.int .u64 a0_2,.int .i64 a0_3]] rfl gS ?_;(with_reducible refine (addr_host.calls a0_0 a0_1 a0_2 a0_3 t113 t114 _ A13.out).mono ?_);rintro e w16 ⟨rfl,hb⟩;refine⟨_,rfl,?_⟩;replace BK110:=Bx0 BK110 hb;replace HB:=Bs1 HB hb GE110.out;(try clear hb))|((with_reducible refine gate_dst (N:=3) rfl ?_);refine box_event ?hg (N:=3) ?hd (cs:= #[.int .u64 0,.int .u64 0]) (t:=25) ?hr ?_;(case hd=>rfl);(case hg=>rfl);(case hr=>first|(go_simp;done)|(go_simp;rfl));intro gb115 hg w17 hbox hb;have n0_:=Bx0 BK110 hb;have n1_:=Bs1 HB hb GE110.out;have n2_:=Ax (hbox);have n3_:=Gw1 HB hg GE110.out;have n4_:=Gw1 HB hg GE110.out;have n5_:=Nl0 BK110 hg;have n6_:=Nr0 BK110 hg;clear BK110;clear HB;have BK110:=n0_;have HB:=n1_;have BK115:=n2_;have GW115:=n3_;have GE115:=n4_;have NB110_115:=n5_;have NB115_110:=n6_;clear n0_ n1_ n2_ n3_ n4_ n5_ n6_;clear hb hbox hg;have hnb18:=NB115_110.out;have hnc18:=NB110_115.out;obtain⟨hcz19_0,hcz19_1,hfz19_0,hfz19_1⟩:=cl2 BK115;obtain⟨hcz20_0,hcz20_1,hcz20_2,hcz20_3,hfz20_0,hfz20_1,hfz20_2,hfz20_3⟩:=cl4 BK110));go_ret;exact⟨eS,bw2 HB.out GE110.out GE115.out⟩
    ·rw [if_neg c14]at H;have c14b0:((Go.bits .or .u64 (Go.bits .and .u64 a0_1 t113) (Go.bits .and .u64 a0_2 t114))==0)=false:=beq_eq_false_iff_ne.mpr c14;have c14b1:((Go.bits .or .u64 (Go.bits .and .u64 a0_1 t113) (Go.bits .and .u64 a0_2 t114)) !=0)=true:=bne_iff_ne.mpr c14;obtain rfl:=Option.some.inj H;obtain⟨hcz21_0,hcz21_1,hcz21_2,hcz21_3,hfz21_0,hfz21_1,hfz21_2,hfz21_3⟩:=cl4 BK110;go_wp2_with (first|((with_reducible refine gate_callee (f:=46) rfl ?_);refine goesL_ (some 24) rfl rfl Try.func46 (by kernel_rfl) rfl #[.agg #[.bool a0_0,.int .u64 a0_1,.int .u64 a0_2,.int .i64 a0_3]] rfl gS ?_;(with_reducible refine (addr_host.calls a0_0 a0_1 a0_2 a0_3 t113 t114 _ A13.out).mono ?_);rintro e w22 ⟨rfl,hb⟩;refine⟨_,rfl,?_⟩;replace BK110:=Bx0 BK110 hb;replace HB:=Bs1 HB hb GE110.out;(try clear hb))|((with_reducible refine gate_dst (N:=3) rfl ?_);refine box_event ?hg (N:=3) ?hd (cs:= #[.int .u64 0,.int .u64 0]) (t:=25) ?hr ?_;(case hd=>rfl);(case hg=>rfl);(case hr=>first|(go_simp;done)|(go_simp;rfl));intro gb115 hg w23 hbox hb;have n0_:=Bx0 BK110 hb;have n1_:=Bs1 HB hb GE110.out;have n2_:=Ax (hbox);have n3_:=Gw1 HB hg GE110.out;have n4_:=Gw1 HB hg GE110.out;have n5_:=Nl0 BK110 hg;have n6_:=Nr0 BK110 hg;clear BK110;clear HB;have BK110:=n0_;have HB:=n1_;have BK115:=n2_;have GW115:=n3_;have GE115:=n4_;have NB110_115:=n5_;have NB115_110:=n6_;clear n0_ n1_ n2_ n3_ n4_ n5_ n6_;clear hb hbox hg;have hnb24:=NB115_110.out;have hnc24:=NB110_115.out;obtain⟨hcz25_0,hcz25_1,hfz25_0,hfz25_1⟩:=cl2 BK115;obtain⟨hcz26_0,hcz26_1,hcz26_2,hcz26_3,hfz26_0,hfz26_1,hfz26_2,hfz26_3⟩:=cl4 BK110));go_ret;exact⟨eS,bw2 HB.out GE110.out GE115.out⟩
mutual
def msg_Check.j0 : Nat → Bool → Int → Int → Int → Int → Bool → Int → Int → Int → Int → Int → Int → Int → Option (Int)
 | 0, _, _, _, _, _, _, _, _, _, _, _, _, _ => none
 | k + 1, x29, x117000, x117001, x117002, x117003, x117004, x117005, x117006, x117007, x117008, x117009, x117010, x117011 => if x29 = true then (some 2) else (if x117000 = 1 then (msg_Check.j1 k true x117000 (x117000 == 1) x117000 x117001 x117002 x117003 x117004 x117005 x117006 x117007 x117008 x117009 x117010 x117011 0 0 0 0 x117004 x117005 x117006 x117007 x117008 x117009 x117010 x117011) else (msg_Check.j1 k true x117000 (x117000 == 2) x117000 x117001 x117002 x117003 x117004 x117005 x117006 x117007 x117008 x117009 x117010 x117011 0 0 0 0 x117004 x117005 x117006 x117007 x117008 x117009 x117010 x117011))
def msg_Check.j1 : Nat → Bool → Int → Bool → Int → Int → Int → Int → Bool → Int → Int → Int → Int → Int → Int → Int → Int → Int → Int → Int → Bool → Int → Int → Int → Int → Int → Int → Int → Option (Int)
 | 0, _, _, _, _, _, _, _, _, _, _, _, _, _, _, _, _, _, _, _, _, _, _, _, _, _, _, _ => none
 | k + 1, x4, x36, x37, x117000, x117001, x117002, x117003, x117004, x117005, x117006, x117007, x117008, x117009, x117010, x117011, x119000, x119001, x119002, x119003, x119004, x119005, x119006, x119007, x119008, x119009, x119010, x119011 => if x37 = true then (if x4 = true then (if (!(x119000 == 0) || (!(x119001 == 0) || (!(x119002 == 0) || (!(x119003 == 0) || ((x119004 || ((!(x119005 == 0) || (!(x119006 == 0))) || (!(x119007 == 0)))) || ((!(x119008 == 0) || (!(x119009 == 0))) || (!(x119010 == 0) || (!(x119011 == 0))))))))) = true then (some 2) else (some 0)) else (some 2)) else (if x36 = 3 then ((msg_acts.f x117008 x117009).bind fun t120 => (if t120 = true then ((addr_Check.f k x117004 x117005 x117006 x117007).bind fun t121 => (if t121 = 0 then (if (!(x119000 == 0) || (!(x119001 == 0) || (!(x119002 == 0) || (!(x119003 == 0) || (!(x119010 == 0) || (!(x119011 == 0))))))) = true then (some 2) else (some 0)) else (some 2))) else (some 2))) else (if x36 = 4 then (if x4 = true then ((addr_Check.f k x117004 x117005 x117006 x117007).bind fun t124 => (if t124 = 0 then (if (!(x119000 == 0) || (!(x119001 == 0) || (!(x119002 == 0) || (!(x119003 == 0) || ((!(x119008 == 0) || (!(x119009 == 0))) || (!(x119010 == 0) || (!(x119011 == 0)))))))) = true then (some 2) else (some 0)) else (some 2))) else (some 2)) else (if x36 = 5 then ((msg_id.f x117011).bind fun t130 => (if t130 = true then ((msg_iface.f x117010).bind fun t131 => (if t131 = true then (if (!(x119000 == 0) || (!(x119001 == 0) || (!(x119002 == 0) || (!(x119003 == 0) || ((x119004 || ((!(x119005 == 0) || (!(x119006 == 0))) || (!(x119007 == 0)))) || ((!(x119008 == 0) || (!(x119009 == 0))))))))) = true then (some 2) else (some 0)) else (some 2))) else (some 2))) else (if x36 = 6 then (if x4 = true then ((msg_iface.f x117010).bind fun t127 => (if t127 = true then (if (!(x119000 == 0) || (!(x119001 == 0) || (!(x119002 == 0) || (!(x119003 == 0) || ((x119004 || ((!(x119005 == 0) || (!(x119006 == 0))) || (!(x119007 == 0)))) || ((!(x119008 == 0) || (!(x119009 == 0))) || (!(x119011 == 0)))))))) = true then (some 2) else (some 0)) else (some 2))) else (some 2)) else (some 2)))))
end
def msg_Check.f (k:Nat) (a0_0:Int) (a0_1:Int) (a0_2:Int) (a0_3:Int) (a0_4:Bool) (a0_5:Int) (a0_6:Int) (a0_7:Int) (a0_8:Int) (a0_9:Int) (a0_10:Int) (a0_11:Int):Option (Int):=(msg_id.f a0_1).bind fun t117=>(if t117=true then (if a0_2=0 then (msg_Check.j0 k true a0_0 a0_1 a0_2 a0_3 a0_4 a0_5 a0_6 a0_7 a0_8 a0_9 a0_10 a0_11) else (if a0_2 > 1099511627776 then (msg_Check.j0 k true a0_0 a0_1 a0_2 a0_3 a0_4 a0_5 a0_6 a0_7 a0_8 a0_9 a0_10 a0_11) else (if a0_3<0 then (msg_Check.j0 k true a0_0 a0_1 a0_2 a0_3 a0_4 a0_5 a0_6 a0_7 a0_8 a0_9 a0_10 a0_11) else (msg_Check.j0 k (decide (a0_3 > 1099511627776)) a0_0 a0_1 a0_2 a0_3 a0_4 a0_5 a0_6 a0_7 a0_8 a0_9 a0_10 a0_11)))) else (msg_Check.j0 k true a0_0 a0_1 a0_2 a0_3 a0_4 a0_5 a0_6 a0_7 a0_8 a0_9 a0_10 a0_11))
theorem msg_Check.mono_l: ∀ k,(∀ y0 y1 y2 y3 y4 y5 y6 y7 y8 y9 y10 y11 y12,LeO (msg_Check.j0 k y0 y1 y2 y3 y4 y5 y6 y7 y8 y9 y10 y11 y12) (msg_Check.j0 (k+1) y0 y1 y2 y3 y4 y5 y6 y7 y8 y9 y10 y11 y12))∧(∀ y0 y1 y2 y3 y4 y5 y6 y7 y8 y9 y10 y11 y12 y13 y14 y15 y16 y17 y18 y19 y20 y21 y22 y23 y24 y25 y26,LeO (msg_Check.j1 k y0 y1 y2 y3 y4 y5 y6 y7 y8 y9 y10 y11 y12 y13 y14 y15 y16 y17 y18 y19 y20 y21 y22 y23 y24 y25 y26) (msg_Check.j1 (k+1) y0 y1 y2 y3 y4 y5 y6 y7 y8 y9 y10 y11 y12 y13 y14 y15 y16 y17 y18 y19 y20 y21 y22 y23 y24 y25 y26))
 |0=>⟨fun _ _ _ _ _ _ _ _ _ _ _ _ _ r h=>by simp [msg_Check.j0]at h,fun _ _ _ _ _ _ _ _ _ _ _ _ _ _ _ _ _ _ _ _ _ _ _ _ _ _ _ r h=>by simp [msg_Check.j1]at h⟩
 |k+1=>by
  obtain⟨ih0,ih1⟩:=msg_Check.mono_l k;refine⟨?_,?_⟩
  ·intro y0 y1 y2 y3 y4 y5 y6 y7 y8 y9 y10 y11 y12;unfold msg_Check.j0
   repeat' first
   |(with_reducible exact ih0 _ _ _ _ _ _ _ _ _ _ _ _ _)
   |(with_reducible exact ih1 _ _ _ _ _ _ _ _ _ _ _ _ _ _ _ _ _ _ _ _ _ _ _ _ _ _ _)
   |(with_reducible exact addr_Check.mono _ _ _ _ _)
   |(with_reducible exact LeO.refl _)
   |(with_reducible exact LeO.none _)
   |(with_reducible refine LeO.ite ?_ ?_)
   |(with_reducible refine LeO.bind ?_ (fun _=>?_))
   |exact ih0 _ _ _ _ _ _ _ _ _ _ _ _ _
   |exact ih1 _ _ _ _ _ _ _ _ _ _ _ _ _ _ _ _ _ _ _ _ _ _ _ _ _ _ _
   |exact addr_Check.mono _ _ _ _ _
   |exact LeO.none _
   |refine LeO.ite ?_ ?_
   |refine LeO.bind ?_ (fun _=>?_)
  ·intro y0 y1 y2 y3 y4 y5 y6 y7 y8 y9 y10 y11 y12 y13 y14 y15 y16 y17 y18 y19 y20 y21 y22 y23 y24 y25 y26;unfold msg_Check.j1
   repeat' first
   |(with_reducible exact ih0 _ _ _ _ _ _ _ _ _ _ _ _ _)
   |(with_reducible exact ih1 _ _ _ _ _ _ _ _ _ _ _ _ _ _ _ _ _ _ _ _ _ _ _ _ _ _ _)
   |(with_reducible exact addr_Check.mono _ _ _ _ _)
   |(with_reducible exact LeO.refl _)
   |(with_reducible exact LeO.none _)
   |(with_reducible refine LeO.ite ?_ ?_)
   |(with_reducible refine LeO.bind ?_ (fun _=>?_))
   |exact ih0 _ _ _ _ _ _ _ _ _ _ _ _ _
   |exact ih1 _ _ _ _ _ _ _ _ _ _ _ _ _ _ _ _ _ _ _ _ _ _ _ _ _ _ _
   |exact addr_Check.mono _ _ _ _ _
   |exact LeO.none _
   |refine LeO.ite ?_ ?_
   |refine LeO.bind ?_ (fun _=>?_)
theorem msg_Check.mono: ∀ a0 a1 a2 a3 a4 a5 a6 a7 a8 a9 a10 a11 k,LeO (msg_Check.f k a0 a1 a2 a3 a4 a5 a6 a7 a8 a9 a10 a11) (msg_Check.f (k+1) a0 a1 a2 a3 a4 a5 a6 a7 a8 a9 a10 a11):=by
 intro a0 a1 a2 a3 a4 a5 a6 a7 a8 a9 a10 a11 k;obtain⟨ih0,ih1⟩:=msg_Check.mono_l k;unfold msg_Check.f
 repeat' first
   | (with_reducible exact ih0 _ _ _ _ _ _ _ _ _ _ _ _ _)
   | (with_reducible exact ih1 _ _ _ _ _ _ _ _ _ _ _ _ _ _ _ _ _ _ _ _ _ _ _ _ _ _ _)
   | (with_reducible exact addr_Check.mono _ _ _ _ _)
   | (with_reducible exact LeO.refl _)
   | (with_reducible exact LeO.none _)
   | (with_reducible refine LeO.ite ?_ ?_)
   | (with_reducible refine LeO.bind ?_ (fun _ => ?_))
   | exact ih0 _ _ _ _ _ _ _ _ _ _ _ _ _
   | exact ih1 _ _ _ _ _ _ _ _ _ _ _ _ _ _ _ _ _ _ _ _ _ _ _ _ _ _ _
   | exact addr_Check.mono _ _ _ _ _
   | exact LeO.none _
   | refine LeO.ite ?_ ?_
   | refine LeO.bind ?_ (fun _ => ?_)
end Go.Proofs.Ytodgadhegcjbhaa.Q
end
