/- Contracts of strategies. Their conditions stand in each. -/
import Derived.Test.YtbcopkhpgolkmaaEngC
import Derived.Test.YtbcopkhpgolkmaaTree
import Derived.Test.YtbcopkhpgolkmaaGame
import Derived.Test.YtbcopkhpgolkmaaSets
import Derived.Test.YtbcopkhpgolkmaaL1
import Derived.Test.YtbcopkhpgolkmaaL2
import Derived.Test.YtbcopkhpgolkmaaL3
import Derived.Test.YtbcopkhpgolkmaaL4
import Derived.Test.YtbcopkhpgolkmaaL5
import Derived.Test.YtbcopkhpgolkmaaRows
namespace Go.Proofs.Ytbcopkhpgolkmaa
open Go Go.RowKit V
set_option linter.unusedVariables false
set_option linter.unusedSimpArgs false
set_option maxRecDepth 100000



theorem impl_InfoSets_c (az : Option Addr) (nz : Nat) (cz : Nat) (Hz : Nat → Hd) (z : List Nd) (aws : Option Addr) (nws : Nat) (cws : Nat) (Hws : Nat → Hd) (ws : List (List Int)) (avs : Option Addr) (nvs : Nat) (cvs : Nat) (Hvs : Nat → Hd) (vs : List (List Int)) (p : Int) (w : World) (rz : RdR ndK az nz Hz z w) (rws : RdR maK aws nws Hws ws w) (rvs : RdR maK avs nvs Hvs vs w) :
    Calls Try.prog 31 #[.agg #[.slice az nz cz, .slice aws nws cws, .slice avs nvs cvs], .int .i64 p] w (Ret fun v w' => ∃ x : Option Addr × Nat × Nat × (Nat → Hd) × List (List Int) × Int, v = .tuple #[.slice x.1 x.2.1 x.2.2.1, .int .i64 x.2.2.2.2.2] ∧ (x.2.2.2.2.1 = (Math.setsAt z ws vs p).1 ∧ x.2.2.2.2.2 = (Math.setsAt z ws vs p).2) ∧ Sep w none_ [OwnR maK 82 2 x.1 x.2.1 x.2.2.1 x.2.2.2.1 x.2.2.2.2.1] w') := by
  have kz : Kn w none_ [] (RdR ndK az nz Hz z) := fun w' hs => rz.ext hs.upd
  have lz : z.length = nz := rz.1
  have mz : nz ≤ 9223372036854775807 := rz.2.1
  have kws : Kn w none_ [] (RdR maK aws nws Hws ws) := fun w' hs => rws.ext hs.upd
  have lws : ws.length = nws := rws.1
  have mws : nws ≤ 9223372036854775807 := rws.2.1
  have kvs : Kn w none_ [] (RdR maK avs nvs Hvs vs) := fun w' hs => rvs.ext hs.upd
  have lvs : vs.length = nvs := rvs.1
  have mvs : nvs ≤ 9223372036854775807 := rvs.2.1
  refine fn (M := none_) (rs := [.tmp 4, .tmp 5]) Try.func31 rfl Try.ntmps31 rfl rfl (Sep.start _ _) ?_
  refine hSeq ?_
  refine hReg (sl 0 (sq 1 (sq 2 sz))) (by kernel_rfl) ?_
  refine box trv1 rfl rfl rfl rfl (fun bkb1 hbkb1 => ?_)
  refine asS rfl rfl rfl ?_
  refine asI rfl rfl rfl ?_
  refine rNil ?_
  refine qSeq rfl ?_
  refine hSeq ?_
  refine hSeq ?_
  refine hReg (sl 0 (sl 1 (sq 2 sz))) (by kernel_rfl) ?_
  refine ldAl Try.isAgg35 Try.sizeOf35 (cBs 0 rfl) trv rfl rfl rfl rfl ?_
  refine callP (v := .bool (Math.isGame z ws vs)) Try.call63 trv rfl rfl (fun w hs => impl_IsGame_c _ _ _ _ _ _ _ _ _ _ _ _ _ _ _ w (Kn.drop (k := 1) kz w hs) (Kn.drop (k := 1) kws w hs) (Kn.drop (k := 1) kvs w hs)) ?_
  refine not rfl rfl rfl ?_
  refine rNil ?_
  refine qSeq rfl ?_
  refine hIfN rfl (fun c1 => ?_) (fun c1 => ?_)
  · -- c1T
    replace c1 : (Math.isGame z ws vs) = false := c1
    refine hSeq ?_
    refine hReg (sq 0 (sq 1 sz)) (by kernel_rfl) ?_
    refine asS rfl rfl rfl ?_
    refine asI rfl rfl rfl ?_
    refine rNil ?_
    refine qSeq rfl ?_
    refine hRet ?_
    refine knP (fun _ h => Sep.nilR maK 82 2 (fun _ => (none, 0)) h) ?_
    exact fun w hs => ⟨[.slice none 0 0, .int .i64 1], ⟨rfl, ⟨rfl, trivial⟩⟩, ⟨(none, 0, 0, (fun _ => (none, 0)), [], 1), rfl, by simp [Math.setsAt, c1], hs.pick [0]⟩⟩
  · -- c1F
    replace c1 : (Math.isGame z ws vs) = true := c1
    have hG := Math.isGame_ok c1
    rw [lws] at hG
    have hT := Math.isTree_ok hG.1
    have hvl := Math.mat_len hG.2.2.2.1
    refine hSkip ?_
    refine qSeq rfl ?_
    refine hSeq ?_
    refine hSeq ?_
    refine hReg (sq 0 (sl 1 (sq 2 sz))) (by kernel_rfl) ?_
    refine mvI rfl rfl rfl ?_
    refine callP (v := .bool (decide ((0 : Int) ≤ p ∧ p ≤ (1 : Int)))) Try.call64 trv rfl rfl (fun w hs => impl_within_c _ _ _ w ) ?_
    refine notD rfl rfl rfl ?_
    refine rNil ?_
    refine qSeq rfl ?_
    refine hIfD rfl (fun c2 => ?_) (fun c2 => ?_)
    · -- c2T
      replace c2 : ¬ ((0 : Int) ≤ p ∧ p ≤ (1 : Int)) := c2
      refine hSeq ?_
      refine hReg (sq 0 (sq 1 sz)) (by kernel_rfl) ?_
      refine asS rfl rfl rfl ?_
      refine asI rfl rfl rfl ?_
      refine rNil ?_
      refine qSeq rfl ?_
      refine hRet ?_
      refine knP (fun _ h => Sep.nilR maK 82 2 (fun _ => (none, 0)) h) ?_
      exact fun w hs => ⟨[.slice none 0 0, .int .i64 2], ⟨rfl, ⟨rfl, trivial⟩⟩, ⟨(none, 0, 0, (fun _ => (none, 0)), [], 2), rfl, by simp only [Math.setsAt, c1, if_true, if_neg c2, and_self], hs.pick [0]⟩⟩
    · -- c2F
      replace c2 : ¬ (¬ ((0 : Int) ≤ p ∧ p ≤ (1 : Int))) := c2
      refine hSkip ?_
      refine qSeq rfl ?_
      refine hSeq ?_
      refine hReg (sl 0 (sq 1 (sl 2 (sq 3 (sq 4 sz))))) (by kernel_rfl) ?_
      refine ldAl Try.isAgg35 Try.sizeOf35 (cBs 0 rfl) trv rfl rfl rfl rfl ?_
      refine mvI rfl rfl rfl ?_
      refine callS Try.call69 trv1 rfl rfl (fun w hs => impl_infoSets_c _ _ _ _ _ _ _ _ _ _ _ _ _ _ _ _ w (Kn.drop (k := 1) kz w hs) (Kn.drop (k := 1) kws w hs) (Kn.drop (k := 1) kvs w hs) (by omega) (by omega)) ?_
      rintro ⟨ay1, ny1, cy1, Hy1, y1⟩ hr1
      try dsimp only at hr1
      refine asS rfl rfl rfl ?_
      refine asI rfl rfl rfl ?_
      refine rNil ?_
      refine qSeq rfl ?_
      refine hRet ?_
      exact fun w hs => ⟨[.slice ay1 ny1 cy1, .int .i64 0], ⟨rfl, ⟨rfl, trivial⟩⟩, ⟨(ay1, ny1, cy1, Hy1, y1, 0), rfl, by simp only [Math.setsAt, c1, lws, if_true, if_pos (Classical.not_not.1 c2), hr1, and_self], hs.pick [0]⟩⟩

theorem spec_InfoSets_c (az : Option Addr) (nz : Nat) (cz : Nat) (Hz : Nat → Hd) (z : List Nd) (aws : Option Addr) (nws : Nat) (cws : Nat) (Hws : Nat → Hd) (ws : List (List Int)) (avs : Option Addr) (nvs : Nat) (cvs : Nat) (Hvs : Nat → Hd) (vs : List (List Int)) (p : Int) (w : World) (rz : RdR ndK az nz Hz z w) (rws : RdR maK aws nws Hws ws w) (rvs : RdR maK avs nvs Hvs vs w) :
    Calls Try.prog 30 #[.agg #[.slice az nz cz, .slice aws nws cws, .slice avs nvs cvs], .int .i64 p] w (Ret fun v w' => ∃ x : Option Addr × Nat × Nat × (Nat → Hd) × List (List Int) × Int, v = .tuple #[.slice x.1 x.2.1 x.2.2.1, .int .i64 x.2.2.2.2.2] ∧ (x.2.2.2.2.1 = (Math.setsAt z ws vs p).1 ∧ x.2.2.2.2.2 = (Math.setsAt z ws vs p).2) ∧ Sep w none_ [OwnR maK 82 2 x.1 x.2.1 x.2.2.1 x.2.2.2.1 x.2.2.2.2.1] w') := by
  have kz : Kn w none_ [] (RdR ndK az nz Hz z) := fun w' hs => rz.ext hs.upd
  have lz : z.length = nz := rz.1
  have mz : nz ≤ 9223372036854775807 := rz.2.1
  have kws : Kn w none_ [] (RdR maK aws nws Hws ws) := fun w' hs => rws.ext hs.upd
  have lws : ws.length = nws := rws.1
  have mws : nws ≤ 9223372036854775807 := rws.2.1
  have kvs : Kn w none_ [] (RdR maK avs nvs Hvs vs) := fun w' hs => rvs.ext hs.upd
  have lvs : vs.length = nvs := rvs.1
  have mvs : nvs ≤ 9223372036854775807 := rvs.2.1
  refine fn (M := none_) (rs := [.tmp 4, .tmp 5]) Try.func30 rfl Try.ntmps30 rfl rfl (Sep.start _ _) ?_
  refine hSeq ?_
  refine hReg (sl 0 (sq 1 (sq 2 sz))) (by kernel_rfl) ?_
  refine box trv1 rfl rfl rfl rfl (fun bkb1 hbkb1 => ?_)
  refine asS rfl rfl rfl ?_
  refine asI rfl rfl rfl ?_
  refine rNil ?_
  refine qSeq rfl ?_
  refine hSeq ?_
  refine hSeq ?_
  refine hReg (sl 0 (sl 1 (sq 2 sz))) (by kernel_rfl) ?_
  refine ldAl Try.isAgg35 Try.sizeOf35 (cBs 0 rfl) trv rfl rfl rfl rfl ?_
  refine callP (v := .bool (Math.isGame z ws vs)) Try.call58 trv rfl rfl (fun w hs => spec_IsGame_c _ _ _ _ _ _ _ _ _ _ _ _ _ _ _ w (Kn.drop (k := 1) kz w hs) (Kn.drop (k := 1) kws w hs) (Kn.drop (k := 1) kvs w hs)) ?_
  refine not rfl rfl rfl ?_
  refine rNil ?_
  refine qSeq rfl ?_
  refine hIfN rfl (fun c1 => ?_) (fun c1 => ?_)
  · -- c1T
    replace c1 : (Math.isGame z ws vs) = false := c1
    refine hSeq ?_
    refine hReg (sq 0 (sq 1 sz)) (by kernel_rfl) ?_
    refine asS rfl rfl rfl ?_
    refine asI rfl rfl rfl ?_
    refine rNil ?_
    refine qSeq rfl ?_
    refine hRet ?_
    refine knP (fun _ h => Sep.nilR maK 82 2 (fun _ => (none, 0)) h) ?_
    exact fun w hs => ⟨[.slice none 0 0, .int .i64 1], ⟨rfl, ⟨rfl, trivial⟩⟩, ⟨(none, 0, 0, (fun _ => (none, 0)), [], 1), rfl, by simp [Math.setsAt, c1], hs.pick [0]⟩⟩
  · -- c1F
    replace c1 : (Math.isGame z ws vs) = true := c1
    have hG := Math.isGame_ok c1
    rw [lws] at hG
    have hT := Math.isTree_ok hG.1
    have hvl := Math.mat_len hG.2.2.2.1
    refine hSkip ?_
    refine qSeq rfl ?_
    refine hSeq ?_
    refine hSeq ?_
    refine hReg (sq 0 (sl 1 (sq 2 sz))) (by kernel_rfl) ?_
    refine mvI rfl rfl rfl ?_
    refine callP (v := .bool (decide ((0 : Int) ≤ p ∧ p ≤ (1 : Int)))) Try.call59 trv rfl rfl (fun w hs => spec_l01In_c _ _ _ w ) ?_
    refine notD rfl rfl rfl ?_
    refine rNil ?_
    refine qSeq rfl ?_
    refine hIfD rfl (fun c2 => ?_) (fun c2 => ?_)
    · -- c2T
      replace c2 : ¬ ((0 : Int) ≤ p ∧ p ≤ (1 : Int)) := c2
      refine hSeq ?_
      refine hReg (sq 0 (sq 1 sz)) (by kernel_rfl) ?_
      refine asS rfl rfl rfl ?_
      refine asI rfl rfl rfl ?_
      refine rNil ?_
      refine qSeq rfl ?_
      refine hRet ?_
      refine knP (fun _ h => Sep.nilR maK 82 2 (fun _ => (none, 0)) h) ?_
      exact fun w hs => ⟨[.slice none 0 0, .int .i64 2], ⟨rfl, ⟨rfl, trivial⟩⟩, ⟨(none, 0, 0, (fun _ => (none, 0)), [], 2), rfl, by simp only [Math.setsAt, c1, if_true, if_neg c2, and_self], hs.pick [0]⟩⟩
    · -- c2F
      replace c2 : ¬ (¬ ((0 : Int) ≤ p ∧ p ≤ (1 : Int))) := c2
      refine hSkip ?_
      refine qSeq rfl ?_
      refine hSeq ?_
      refine hReg (sl 0 (sq 1 (sl 2 (sq 3 (sq 4 sz))))) (by kernel_rfl) ?_
      refine ldAl Try.isAgg35 Try.sizeOf35 (cBs 0 rfl) trv rfl rfl rfl rfl ?_
      refine mvI rfl rfl rfl ?_
      refine callS Try.call70 trv1 rfl rfl (fun w hs => spec_l21Sets_c _ _ _ _ _ _ _ _ _ _ _ _ _ _ _ _ w (Kn.drop (k := 1) kz w hs) (Kn.drop (k := 1) kws w hs) (Kn.drop (k := 1) kvs w hs) (by omega) (by omega)) ?_
      rintro ⟨ay1, ny1, cy1, Hy1, y1⟩ hr1
      try dsimp only at hr1
      refine asS rfl rfl rfl ?_
      refine asI rfl rfl rfl ?_
      refine rNil ?_
      refine qSeq rfl ?_
      refine hRet ?_
      exact fun w hs => ⟨[.slice ay1 ny1 cy1, .int .i64 0], ⟨rfl, ⟨rfl, trivial⟩⟩, ⟨(ay1, ny1, cy1, Hy1, y1, 0), rfl, by simp only [Math.setsAt, c1, lws, if_true, if_pos (Classical.not_not.1 c2), hr1, and_self], hs.pick [0]⟩⟩

theorem spec_l22Code_c (az : Option Addr) (nz : Nat) (cz : Nat) (Hz : Nat → Hd) (z : List Nd) (aws : Option Addr) (nws : Nat) (cws : Nat) (Hws : Nat → Hd) (ws : List (List Int)) (avs : Option Addr) (nvs : Nat) (cvs : Nat) (Hvs : Nat → Hd) (vs : List (List Int)) (p : Int) (w : World) (rz : RdR ndK az nz Hz z w) (rws : RdR maK aws nws Hws ws w) (rvs : RdR maK avs nvs Hvs vs w) :
    Calls Try.prog 67 #[.agg #[.slice az nz cz, .slice aws nws cws, .slice avs nvs cvs], .int .i64 p] w (Ret fun v w' => v = .int .i64 (Math.codeOf z ws vs p) ∧ Ext w w') := by
  have kz : Kn w none_ [] (RdR ndK az nz Hz z) := fun w' hs => rz.ext hs.upd
  have lz : z.length = nz := rz.1
  have mz : nz ≤ 9223372036854775807 := rz.2.1
  have kws : Kn w none_ [] (RdR maK aws nws Hws ws) := fun w' hs => rws.ext hs.upd
  have lws : ws.length = nws := rws.1
  have mws : nws ≤ 9223372036854775807 := rws.2.1
  have kvs : Kn w none_ [] (RdR maK avs nvs Hvs vs) := fun w' hs => rvs.ext hs.upd
  have lvs : vs.length = nvs := rvs.1
  have mvs : nvs ≤ 9223372036854775807 := rvs.2.1
  refine fn (M := none_) (rs := [.tmp 4]) Try.func67 rfl Try.ntmps67 rfl rfl (Sep.start _ _) ?_
  refine hSeq ?_
  refine hReg (sl 0 (sq 1 sz)) (by kernel_rfl) ?_
  refine box trv1 rfl rfl rfl rfl (fun bkb1 hbkb1 => ?_)
  refine asI rfl rfl rfl ?_
  refine rNil ?_
  refine qSeq rfl ?_
  refine hSeq ?_
  refine hSeq ?_
  refine hReg (sl 0 (sl 1 (sq 2 sz))) (by kernel_rfl) ?_
  refine ldAl Try.isAgg35 Try.sizeOf35 (cBs 0 rfl) trv rfl rfl rfl rfl ?_
  refine callP (v := .bool (Math.isGame z ws vs)) Try.call58 trv rfl rfl (fun w hs => spec_IsGame_c _ _ _ _ _ _ _ _ _ _ _ _ _ _ _ w (Kn.drop (k := 1) kz w hs) (Kn.drop (k := 1) kws w hs) (Kn.drop (k := 1) kvs w hs)) ?_
  refine not rfl rfl rfl ?_
  refine rNil ?_
  refine qSeq rfl ?_
  refine hIfN rfl (fun c1 => ?_) (fun c1 => ?_)
  · -- c1T
    replace c1 : (Math.isGame z ws vs) = false := c1
    refine hSeq ?_
    refine hReg (sq 0 sz) (by kernel_rfl) ?_
    refine asI rfl rfl rfl ?_
    refine rNil ?_
    refine qSeq rfl ?_
    refine hRet ?_
    exact fun w hs => ⟨[.int .i64 1], ⟨rfl, trivial⟩, ⟨vI (by simp [Math.codeOf, c1]), hs.upd⟩⟩
  · -- c1F
    replace c1 : (Math.isGame z ws vs) = true := c1
    refine hSkip ?_
    refine qSeq rfl ?_
    refine hSeq ?_
    refine hSeq ?_
    refine hReg (sq 0 (sl 1 (sq 2 sz))) (by kernel_rfl) ?_
    refine mvI rfl rfl rfl ?_
    refine callP (v := .bool (decide ((0 : Int) ≤ p ∧ p ≤ (1 : Int)))) Try.call59 trv rfl rfl (fun w hs => spec_l01In_c _ _ _ w ) ?_
    refine notD rfl rfl rfl ?_
    refine rNil ?_
    refine qSeq rfl ?_
    refine hIfD rfl (fun c2 => ?_) (fun c2 => ?_)
    · -- c2T
      replace c2 : ¬ ((0 : Int) ≤ p ∧ p ≤ (1 : Int)) := c2
      refine hSeq ?_
      refine hReg (sq 0 sz) (by kernel_rfl) ?_
      refine asI rfl rfl rfl ?_
      refine rNil ?_
      refine qSeq rfl ?_
      refine hRet ?_
      exact fun w hs => ⟨[.int .i64 2], ⟨rfl, trivial⟩, ⟨vI (by unfold Math.codeOf; rw [if_pos c1, if_neg c2]), hs.upd⟩⟩
    · -- c2F
      replace c2 : ¬ (¬ ((0 : Int) ≤ p ∧ p ≤ (1 : Int))) := c2
      refine hSkip ?_
      refine qSeq rfl ?_
      refine hSeq ?_
      refine hReg (sq 0 sz) (by kernel_rfl) ?_
      refine asI rfl rfl rfl ?_
      refine rNil ?_
      refine qSeq rfl ?_
      refine hRet ?_
      exact fun w hs => ⟨[.int .i64 0], ⟨rfl, trivial⟩, ⟨vI (by unfold Math.codeOf; rw [if_pos c1, if_pos (Classical.not_not.1 c2)]), hs.upd⟩⟩

theorem spec_l22Sizes_c (az : Option Addr) (nz : Nat) (cz : Nat) (Hz : Nat → Hd) (z : List Nd) (aws : Option Addr) (nws : Nat) (cws : Nat) (Hws : Nat → Hd) (ws : List (List Int)) (avs : Option Addr) (nvs : Nat) (cvs : Nat) (Hvs : Nat → Hd) (vs : List (List Int)) (p : Int) (w : World) (rz : RdR ndK az nz Hz z w) (rws : RdR maK aws nws Hws ws w) (rvs : RdR maK avs nvs Hvs vs w) (hg : Math.isGame z ws vs = true) :
    Calls Try.prog 68 #[.agg #[.slice az nz cz, .slice aws nws cws, .slice avs nvs cvs], .int .i64 p] w (Ret fun v w' => ∃ x : Option Addr × Nat × Nat × List Int, v = .slice x.1 x.2.1 x.2.2.1 ∧ (x.2.2.2 = Math.sizes z (Math.sets z nws p)) ∧ Sep w none_ [OwnI 2 x.1 x.2.1 x.2.2.1 x.2.2.2] w') := by
  have kz : Kn w none_ [] (RdR ndK az nz Hz z) := fun w' hs => rz.ext hs.upd
  have lz : z.length = nz := rz.1
  have mz : nz ≤ 9223372036854775807 := rz.2.1
  have kws : Kn w none_ [] (RdR maK aws nws Hws ws) := fun w' hs => rws.ext hs.upd
  have lws : ws.length = nws := rws.1
  have mws : nws ≤ 9223372036854775807 := rws.2.1
  have kvs : Kn w none_ [] (RdR maK avs nvs Hvs vs) := fun w' hs => rvs.ext hs.upd
  have lvs : vs.length = nvs := rvs.1
  have mvs : nvs ≤ 9223372036854775807 := rvs.2.1
  have hG := Math.isGame_ok hg
  rw [lws] at hG
  have hT := Math.isTree_ok hG.1
  have hvl := Math.mat_len hG.2.2.2.1
  have hsl := Math.sets_len (z := z) (p := p) (show nws ≤ 6 by omega)
  refine fn (M := none_) (rs := [.tmp 4]) Try.func68 rfl Try.ntmps68 rfl rfl (Sep.start _ _) ?_
  refine hSeq ?_
  refine hReg (sl 0 (sq 1 sz)) (by kernel_rfl) ?_
  refine box trv1 rfl rfl rfl rfl (fun bkb1 hbkb1 => ?_)
  refine asS rfl rfl rfl ?_
  refine rNil ?_
  refine qSeq rfl ?_
  refine hSeq ?_
  refine hReg (sl 0 (sq 1 (sl 2 (sq 3 sz)))) (by kernel_rfl) ?_
  refine ldAl Try.isAgg35 Try.sizeOf35 (cBs 0 rfl) trv rfl rfl rfl rfl ?_
  refine mvI rfl rfl rfl ?_
  refine callS Try.call70 trv1 rfl rfl (fun w hs => spec_l21Sets_c _ nz cz _ _ _ nws cws _ _ _ nvs cvs _ _ _ w (Kn.drop (k := 1) kz w hs) (Kn.drop (k := 1) kws w hs) (Kn.drop (k := 1) kvs w hs) (by omega) (by omega)) ?_
  rintro ⟨ay1, ny1, cy1, Hy1, y1⟩ hr1
  dsimp only at hr1
  subst y1
  refine rKnow (fun w hs => (show OwnR maK 82 2 ay1 ny1 cy1 Hy1 (Math.sets z nws p) w from hs.at_ 0 rfl).1) (fun lenn2 => ?_)
  refine asS rfl rfl rfl ?_
  refine rNil ?_
  refine qSeq rfl ?_
  refine hSeq ?_
  refine hReg (sl 0 (sq 1 sz)) (by kernel_rfl) ?_
  refine bsl trv1 rfl rfl rfl (bsl82_0) (fun bkl3 hbkl3 => ?_)
  refine asS rfl rfl rfl ?_
  refine rNil ?_
  refine qSeq rfl ?_
  refine hSeq ?_
  refine hSeq ?_
  refine hReg (sq 0 sz) (by kernel_rfl) ?_
  refine asI rfl rfl rfl ?_
  refine rNil ?_
  refine qSeq rfl ?_
  refine hBlk ?_
  refine hPieces (fun _ h => Sep.litI h 0 [] rfl rfl rfl) ?_
  refine hLoop (α := Nat × Nat × Hd) (fun x => x.1 ≤ ny1 ∧ x.2.1 = x.1) (fun x => ny1 - x.1) (fun x => [OwnI 2 x.2.2.1 x.2.1 x.2.2.2 ((Math.sizes z ((Math.sets z nws p).take x.1))), OwnR maK 82 2 ay1 ny1 cy1 Hy1 (Math.sets z nws p), blk bkb1 35 [.slice az nz cz, .slice aws nws cws, .slice avs nvs cvs]]) (fun x => [(2, .pointer (some ⟨bkb1, 0, none⟩)), (5, .slice ay1 ny1 cy1), (6, .slice x.2.2.1 x.2.1 x.2.2.2), (7, .int .i64 (x.1 : Int))]) ((0, 0, ((some ⟨bkl3, 0, none⟩), 0))) ⟨Nat.zero_le _, rfl⟩ (fun _ h => h.pick [0, 0, 0]) ⟨rfl, rfl, rfl, rfl, trivial⟩ ?_
  rintro ⟨i, q, hd⟩ τ1 ⟨hi, hq⟩
  dsimp only at hi hq
  refine hRe [(2, .pointer (some ⟨bkb1, 0, none⟩)), (5, .slice ay1 ny1 cy1), (6, .slice hd.1 q hd.2), (7, .int .i64 (i : Int))] [OwnI 2 hd.1 q hd.2 ((Math.sizes z ((Math.sets z nws p).take i))), OwnR maK 82 2 ay1 ny1 cy1 Hy1 (Math.sets z nws p), blk bkb1 35 [.slice az nz cz, .slice aws nws cws, .slice avs nvs cvs]] rfl rfl ?_
  refine hSeq ?_
  refine hSeq ?_
  refine hReg (sq 0 (sq 1 (sq 2 (sq 3 sz)))) (by kernel_rfl) ?_
  refine mvI rfl rfl rfl ?_
  refine mvS rfl rfl rfl ?_
  refine lenS Try.runUnderlying25 rfl rfl rfl ?_
  refine lss rfl rfl rfl rfl ?_
  refine rNil ?_
  refine qSeq rfl ?_
  refine hIfD rfl (fun c1 => ?_) (fun c1 => ?_)
  · -- c1T
    replace c1 : (i : Int) < (ny1 : Int) := c1
    have hsa := Math.sets_at (z := z) (k := nws) (p := p) (i := i) (by omega)
    have hwd : Math.wide z ((Math.sets z nws p).getD i []) ≤ 4 := Math.wide_le hg hsa.2.1
    have hwq : Math.wide z ((Math.sets z nws p).getD i []) = (z.getD (((Math.sets z nws p).getD i []).getD 0 0).toNat dN).ch.length := rfl
    refine hSkip ?_
    refine qSeq rfl ?_
    refine hSeq ?_
    refine hBlk ?_
    refine hDraw (Ls := [OwnR maK 82 2 ay1 ny1 cy1 Hy1 (Math.sets z nws p), blk bkb1 35 [.slice az nz cz, .slice aws nws cws, .slice avs nvs cvs]]) (by kernel_rfl) (sq 0 (sq 1 (sq 2 (sq 3 (sq 4 (sq 5 (sq 6 (sq 7 (sq 8 (sq 9 (sq 10 (sq 11 (sq 12 (sq 13 (sl 14 (sl 15 (sq 16 sz))))))))))))))))) (by kernel_rfl) (.cons _ (.cons_cons _ (.cons_cons _ .slnil))) ?_
    refine mvS rfl rfl rfl ?_
    refine fld fl35_0 rfl rfl rfl ?_
    refine fld fl33_0 rfl rfl rfl ?_
    refine ldq Try.isAgg31 (cB 1 rfl rfl) rfl rfl rfl ?_
    refine mvS rfl rfl rfl ?_
    refine mvI rfl rfl rfl ?_
    refine ixRq (zn := i) ((Math.sets z nws p).getD i []) el25 ((Kn.at_ 0 rfl).imp fun _ h => OwnR.rd h maK.ok) (fun _ h => h.pick [1, 1]) rfl rfl rfl rfl (by omega) (by omega) rfl (nth [] (by omega)) ?_
    intro be2 oe2 e2
    refine ldq Try.isAgg82 (Kn.fld e2 0 rfl) rfl rfl rfl ?_
    refine ixIq (zn := 0) el82 ((Kn.imp ((Kn.at_ (φ := OwnR maK 82 2 ay1 ny1 cy1 Hy1 (Math.sets z nws p)) 0 rfl).imp fun _ h => OwnR.rd h maK.ok) fun _ h => h.kidM (nth [] (by omega)))) (fun _ h => h.pick [1, 1]) rfl rfl rfl rfl (by omega) (by omega) rfl ?_
    intro ae3 e3
    refine ldq Try.isAgg2 (e3) rfl rfl rfl ?_
    refine ixRq (zn := (((((Math.sets z nws p).getD i [])).getD 0 0)).toNat) (z.getD ((((((Math.sets z nws p).getD i [])).getD 0 0)).toNat) dN) el31 (Kn.drop (k := 2) kz) (fun _ h => h.pick [1, 1]) rfl rfl rfl rfl (by omega) (by omega) rfl (nth dN (by omega)) ?_
    intro be4 oe4 e4
    refine fld fl84_4 rfl rfl rfl ?_
    refine ldq Try.isAgg82 (Kn.fld e4 4 rfl) rfl rfl rfl ?_
    refine lenS Try.runUnderlying82 rfl rfl rfl ?_
    refine bsl (fun _ _ h => h.pick [2, 2]) rfl rfl rfl (bsl82_1 (.int .i64 _) rfl) (fun bkl4 hbkl4 => ?_)
    refine aplI (N := q) (x := ((((z.getD ((((((Math.sets z nws p).getD i [])).getD 0 0)).toNat) dN).ch).length : Nat) : Int)) 1 0 rfl rfl mk82 (fun _ _ h => h.pick [2, 2]) rfl rfl rfl rfl (by omega) ?_
    intro aq5 cq5
    refine asS rfl rfl rfl ?_
    refine rNil ?_
    refine qSeq rfl ?_
    refine hReg (sq 0 (sq 1 (sq 2 sz))) (by kernel_rfl) ?_
    refine mvI rfl rfl rfl ?_
    refine add rfl rfl rfl rfl (by omega) ?_
    refine asI rfl rfl rfl ?_
    refine rNil ?_
    rw [← Math.sizes_step (by omega)]
    exact qNext rfl ((i + 1, q + 1, (aq5, cq5))) (by dsimp only; omega) ⟨by dsimp only; omega, by dsimp only; omega⟩ ⟨rfl, rfl, rfl, rfl, trivial⟩ (fun _ h => h.pick [1, 1, 1])
  · -- c1F
    replace c1 : ¬ ((i : Int) < (ny1 : Int)) := c1
    refine hExit rfl ?_
    refine qSeq rfl ?_
    refine hSeq ?_
    refine hReg (sq 0 (sq 1 sz)) (by kernel_rfl) ?_
    refine mvS rfl rfl rfl ?_
    refine asS rfl rfl rfl ?_
    refine rNil ?_
    refine qSeq rfl ?_
    refine hRet ?_
    exact fun w hs => ⟨[.slice hd.1 q hd.2], ⟨rfl, trivial⟩, ⟨(hd.1, q, hd.2, (Math.sizes z ((Math.sets z nws p).take i))), rfl, by rw [List.take_of_length_le (by omega)], hs.pick [0]⟩⟩

theorem impl_isStrategy_c (az : Option Addr) (nz : Nat) (cz : Nat) (Hz : Nat → Hd) (z : List Nd) (aws : Option Addr) (nws : Nat) (cws : Nat) (Hws : Nat → Hd) (ws : List (List Int)) (avs : Option Addr) (nvs : Nat) (cvs : Nat) (Hvs : Nat → Hd) (vs : List (List Int)) (pl : Int) (aps : Option Addr) (nps : Nat) (cps : Nat) (Hps : Nat → Hd) (ps : List (List Int)) (w : World) (rz : RdR ndK az nz Hz z w) (rws : RdR maK aws nws Hws ws w) (rvs : RdR maK avs nvs Hvs vs w) (rps : RdR maK aps nps Hps ps w) (hg : Math.isGame z ws vs = true) :
    Calls Try.prog 72 #[.agg #[.slice az nz cz, .slice aws nws cws, .slice avs nvs cvs], .agg #[.int .i64 pl, .slice aps nps cps]] w (Ret fun v w' => v = .bool ((Math.partsB z (Math.sets z nws pl) ps)) ∧ Ext w w') := by
  have kz : Kn w none_ [] (RdR ndK az nz Hz z) := fun w' hs => rz.ext hs.upd
  have lz : z.length = nz := rz.1
  have mz : nz ≤ 9223372036854775807 := rz.2.1
  have kws : Kn w none_ [] (RdR maK aws nws Hws ws) := fun w' hs => rws.ext hs.upd
  have lws : ws.length = nws := rws.1
  have mws : nws ≤ 9223372036854775807 := rws.2.1
  have kvs : Kn w none_ [] (RdR maK avs nvs Hvs vs) := fun w' hs => rvs.ext hs.upd
  have lvs : vs.length = nvs := rvs.1
  have mvs : nvs ≤ 9223372036854775807 := rvs.2.1
  have kps : Kn w none_ [] (RdR maK aps nps Hps ps) := fun w' hs => rps.ext hs.upd
  have lps : ps.length = nps := rps.1
  have mps : nps ≤ 9223372036854775807 := rps.2.1
  have hG := Math.isGame_ok hg
  rw [lws] at hG
  have hT := Math.isTree_ok hG.1
  have hvl := Math.mat_len hG.2.2.2.1
  have hsl := Math.sets_len (z := z) (p := pl) (show nws ≤ 6 by omega)
  refine fn (M := none_) (rs := [.tmp 4]) Try.func72 rfl Try.ntmps72 rfl rfl (Sep.start _ _) ?_
  refine hSeq ?_
  refine hReg (sl 0 (sl 1 (sq 2 sz))) (by kernel_rfl) ?_
  refine box trv1 rfl rfl rfl rfl (fun bkb1 hbkb1 => ?_)
  refine box trv1 rfl rfl rfl rfl (fun bkb2 hbkb2 => ?_)
  refine asB rfl rfl rfl ?_
  refine rNil ?_
  refine qSeq rfl ?_
  refine hSeq ?_
  refine hReg (sl 0 (sq 1 (sl 2 (sl 3 (sq 4 sz))))) (by kernel_rfl) ?_
  refine ldAl Try.isAgg35 Try.sizeOf35 (cBs 1 rfl) trv rfl rfl rfl rfl ?_
  refine fld fl45_0 rfl rfl rfl ?_
  refine ldl Try.isAgg2 (cB 0 rfl rfl) trv rfl rfl rfl ?_
  refine callS Try.call69 trv1 rfl rfl (fun w hs => impl_infoSets_c _ nz cz _ _ _ nws cws _ _ _ nvs cvs _ _ _ w (Kn.drop (k := 2) kz w hs) (Kn.drop (k := 2) kws w hs) (Kn.drop (k := 2) kvs w hs) (by omega) (by omega)) ?_
  rintro ⟨ay1, ny1, cy1, Hy1, y1⟩ hr1
  dsimp only at hr1
  subst y1
  refine rKnow (fun w hs => (show OwnR maK 82 2 ay1 ny1 cy1 Hy1 (Math.sets z nws pl) w from hs.at_ 0 rfl).1) (fun lenn3 => ?_)
  refine asS rfl rfl rfl ?_
  refine rNil ?_
  refine qSeq rfl ?_
  refine hSeq ?_
  refine hSeq ?_
  refine hReg (sq 0 (sl 1 (sq 2 (sq 3 (sq 4 (sq 5 sz)))))) (by kernel_rfl) ?_
  refine fld fl45_1 rfl rfl rfl ?_
  refine ldl Try.isAgg25 (cB 1 rfl rfl) trv rfl rfl rfl ?_
  refine lenS Try.runUnderlying25 rfl rfl rfl ?_
  refine mvS rfl rfl rfl ?_
  refine lenS Try.runUnderlying25 rfl rfl rfl ?_
  refine neq rfl rfl rfl rfl ?_
  refine rNil ?_
  refine qSeq rfl ?_
  refine hIfD rfl (fun c1 => ?_) (fun c1 => ?_)
  · -- c1T
    replace c1 : (nps : Int) ≠ (ny1 : Int) := c1
    refine hSeq ?_
    refine hReg (sq 0 sz) (by kernel_rfl) ?_
    refine asB rfl rfl rfl ?_
    refine rNil ?_
    refine qSeq rfl ?_
    refine hRet ?_
    exact fun w hs => ⟨[.bool false], ⟨rfl, trivial⟩, ⟨bB (Math.parts_no0 (by omega)).symm, hs.upd⟩⟩
  · -- c1F
    replace c1 : ¬ ((nps : Int) ≠ (ny1 : Int)) := c1
    refine hSkip ?_
    refine qSeq rfl ?_
    refine hSeq ?_
    refine hSeq ?_
    refine hReg (sq 0 (sq 1 (sq 2 sz))) (by kernel_rfl) ?_
    refine mvS rfl rfl rfl ?_
    refine lenS Try.runUnderlying25 rfl rfl rfl ?_
    refine mvI rfl rfl rfl ?_
    refine rNil ?_
    refine qSeq rfl ?_
    refine hBlk ?_
    refine hLoop (α := Nat) (fun i => i ≤ ny1 ∧ ∀ j, j < i → Math.partB z ((Math.sets z nws pl).getD j []) (ps.getD j []) = true) (fun i => ny1 - i) (fun i => [OwnR maK 82 2 ay1 ny1 cy1 Hy1 (Math.sets z nws pl), blk bkb2 45 [.int .i64 pl, .slice aps nps cps], blk bkb1 35 [.slice az nz cz, .slice aws nws cws, .slice avs nvs cvs]]) (fun i => [(2, .pointer (some ⟨bkb1, 0, none⟩)), (3, .pointer (some ⟨bkb2, 0, none⟩)), (19, .slice ay1 ny1 cy1), (20, .int .i64 (ny1 : Int)), (21, .int .i64 (i : Int))]) 0 ⟨Nat.zero_le _, fun j hj => by omega⟩ (fun _ h => h.pick [0, 0, 0]) ⟨rfl, rfl, rfl, rfl, rfl, trivial⟩ ?_
    rintro i τ1 ⟨hi, hal⟩
    refine hSeq ?_
    refine hReg (sq 0 sz) (by kernel_rfl) ?_
    refine lss rfl rfl rfl rfl ?_
    refine rNil ?_
    refine qSeq rfl ?_
    refine hSeq ?_
    refine hIfD rfl (fun c2 => ?_) (fun c2 => ?_)
    · -- c2T
      replace c2 : (i : Int) < (ny1 : Int) := c2
      have hsa := Math.sets_at (z := z) (k := nws) (p := pl) (i := i) (by omega)
      have hwd : Math.wide z ((Math.sets z nws pl).getD i []) ≤ 4 := Math.wide_le hg hsa.2.1
      have hwq : Math.wide z ((Math.sets z nws pl).getD i []) = (z.getD (((Math.sets z nws pl).getD i []).getD 0 0).toNat dN).ch.length := rfl
      refine hSkip ?_
      refine qSeq rfl ?_
      refine hSeq ?_
      refine hBlk ?_
      refine hSeq ?_
      refine hReg (sq 0 (sq 1 (sl 2 (sq 3 (sq 4 sz))))) (by kernel_rfl) ?_
      refine mvI rfl rfl rfl ?_
      refine ixRl (zn := i) ((Math.sets z nws pl).getD i []) el25 ((Kn.at_ 0 rfl).imp fun _ h => OwnR.rd h maK.ok) rfl rfl rfl rfl (by omega) (by omega) rfl (nth [] (by omega)) ?_
      intro be2 oe2 e2
      refine ldl Try.isAgg82 (Kn.fld e2 0 rfl) trv rfl rfl rfl ?_
      refine asI rfl rfl rfl ?_
      refine asS rfl rfl rfl ?_
      refine rNil ?_
      refine qSeq rfl ?_
      refine hSeq ?_
      refine hReg (sq 0 (sl 1 (sq 2 (sq 3 (sl 4 (sq 5 sz)))))) (by kernel_rfl) ?_
      refine fld fl45_1 rfl rfl rfl ?_
      refine ldl Try.isAgg25 (cB 1 rfl rfl) trv rfl rfl rfl ?_
      refine mvI rfl rfl rfl ?_
      refine ixRl (zn := i) (ps.getD i []) el25 (Kn.drop (k := 3) kps) rfl rfl rfl rfl (by omega) (by omega) rfl (nth [] (by omega)) ?_
      intro be3 oe3 e3
      refine ldl Try.isAgg82 (Kn.fld e3 0 rfl) trv rfl rfl rfl ?_
      refine asS rfl rfl rfl ?_
      refine rNil ?_
      refine qSeq rfl ?_
      refine hSeq ?_
      refine hDraw (Ls := [OwnR maK 82 2 ay1 ny1 cy1 Hy1 (Math.sets z nws pl), blk bkb2 45 [.int .i64 pl, .slice aps nps cps], blk bkb1 35 [.slice az nz cz, .slice aws nws cws, .slice avs nvs cvs]]) (by kernel_rfl) (sq 0 (sq 1 (sq 2 (sq 3 (sq 4 (sq 5 (sq 6 (sq 7 (sq 8 (sq 9 (sq 10 (sq 11 (sq 12 (sq 13 (sq 14 (sl 15 (sq 16 (sq 17 (sq 18 (sq 19 (sl 20 (sq 21 (sq 22 sz))))))))))))))))))))))) (by kernel_rfl) (.cons_cons _ (.cons_cons _ (.cons_cons _ .slnil))) ?_
      refine mvS rfl rfl rfl ?_
      refine lenS Try.runUnderlying82 rfl rfl rfl ?_
      refine fld fl35_0 rfl rfl rfl ?_
      refine fld fl33_0 rfl rfl rfl ?_
      refine ldq Try.isAgg31 (cB 2 rfl rfl) rfl rfl rfl ?_
      refine mvS rfl rfl rfl ?_
      refine ixIq (zn := 0) el82 ((Kn.imp ((Kn.at_ (φ := OwnR maK 82 2 ay1 ny1 cy1 Hy1 (Math.sets z nws pl)) 0 rfl).imp fun _ h => OwnR.rd h maK.ok) fun _ h => h.kidM (nth [] (by omega)))) (fun _ h => h.pick [0, 0, 0]) rfl rfl rfl rfl (by omega) (by omega) rfl ?_
      intro ae4 e4
      refine ldq Try.isAgg2 (e4) rfl rfl rfl ?_
      refine ixRq (zn := (((((Math.sets z nws pl).getD i [])).getD 0 0)).toNat) (z.getD ((((((Math.sets z nws pl).getD i [])).getD 0 0)).toNat) dN) el31 (Kn.drop (k := 3) kz) (fun _ h => h.pick [0, 0, 0]) rfl rfl rfl rfl (by omega) (by omega) rfl (nth dN (by omega)) ?_
      intro be5 oe5 e5
      refine fld fl84_4 rfl rfl rfl ?_
      refine ldq Try.isAgg82 (Kn.fld e5 4 rfl) rfl rfl rfl ?_
      refine lenS Try.runUnderlying82 rfl rfl rfl ?_
      refine neq rfl rfl rfl rfl ?_
      refine mvB rfl rfl rfl ?_
      refine rBoolD (d := 44) rfl (fun g3 => ?_) (fun g3 => ?_)
      · -- g3T
        replace g3 : (((ps.getD i []).length : Nat) : Int) ≠ ((((z.getD ((((((Math.sets z nws pl).getD i [])).getD 0 0)).toNat) dN).ch).length : Nat) : Int) := g3
        refine rSkipQ rfl rfl ?_
        refine rSkipL (fun _ h => h.pick [0, 0, 0]) rfl rfl ?_
        refine rSkipQ rfl rfl ?_
        refine pickB rfl rfl rfl rfl ?_
        refine mvB rfl rfl rfl ?_
        refine rSkipQ rfl rfl ?_
        refine rSkipL (fun _ h => h.pick [0, 0, 0]) rfl rfl ?_
        refine rSkipQ rfl rfl ?_
        refine pickB rfl rfl rfl rfl ?_
        refine rNil ?_
        refine qSeq rfl ?_
        refine hIfT rfl ?_
        refine hSeq ?_
        refine hReg (sq 0 sz) (by kernel_rfl) ?_
        refine asB rfl rfl rfl ?_
        refine rNil ?_
        refine qSeq rfl ?_
        refine hRet ?_
        exact fun w hs => ⟨[.bool false], ⟨rfl, trivial⟩, ⟨bB (Math.parts_no (i := i) (by omega) (Math.part_no1 g3)).symm, hs.upd⟩⟩
      · -- g3F
        replace g3 : ¬ ((((ps.getD i []).length : Nat) : Int) ≠ ((((z.getD ((((((Math.sets z nws pl).getD i [])).getD 0 0)).toNat) dN).ch).length : Nat) : Int)) := g3
        refine mvS rfl rfl rfl ?_
        refine callP (v := .bool (((ps.getD i []).all (Math.inB (0 : Int) (60 : Int))))) Try.call108 (fun _ h => h.pick [0, 0, 0]) rfl rfl (fun w hs => impl_allWithin_c _ ((ps.getD i []).length) ((Hps i).2) _ _ _ w (Kn.drop (k := 3) ((Kn.imp kps fun _ h => h.kidM (nth [] (by omega)))) w hs)) ?_
        refine not rfl rfl rfl ?_
        refine pickB rfl rfl rfl rfl ?_
        refine mvB rfl rfl rfl ?_
        refine rBoolN (d := 49) rfl (fun g4 => ?_) (fun g4 => ?_)
        · -- g4T
          replace g4 : ((ps.getD i []).all (Math.inB (0 : Int) (60 : Int))) = false := g4
          refine rSkipQ rfl rfl ?_
          refine rSkipL (fun _ h => h.pick [0, 0, 0]) rfl rfl ?_
          refine rSkipQ rfl rfl ?_
          refine pickB rfl rfl rfl rfl ?_
          refine rNil ?_
          refine qSeq rfl ?_
          refine hIfT rfl ?_
          refine hSeq ?_
          refine hReg (sq 0 sz) (by kernel_rfl) ?_
          refine asB rfl rfl rfl ?_
          refine rNil ?_
          refine qSeq rfl ?_
          refine hRet ?_
          exact fun w hs => ⟨[.bool false], ⟨rfl, trivial⟩, ⟨bB (Math.parts_no (i := i) (by omega) (Math.part_no2 g4)).symm, hs.upd⟩⟩
        · -- g4F
          replace g4 : ((ps.getD i []).all (Math.inB (0 : Int) (60 : Int))) = true := g4
          have hb := Math.all60 g4
          refine mvS rfl rfl rfl ?_
          refine callP (v := .int .i64 ((ps.getD i []).sum)) Try.call109 (fun _ h => h.pick [0, 0, 0]) rfl rfl (fun w hs => impl_sumOf_c _ ((ps.getD i []).length) ((Hps i).2) _ w (Kn.drop (k := 3) ((Kn.imp kps fun _ h => h.kidM (nth [] (by omega)))) w hs) (by assumption) (by omega)) ?_
          refine neq rfl rfl rfl rfl ?_
          refine pickB rfl rfl rfl rfl ?_
          refine rNil ?_
          refine qSeq rfl ?_
          refine hIfD rfl (fun c5 => ?_) (fun c5 => ?_)
          · -- c5T
            replace c5 : (ps.getD i []).sum ≠ 60 := c5
            refine hSeq ?_
            refine hReg (sq 0 sz) (by kernel_rfl) ?_
            refine asB rfl rfl rfl ?_
            refine rNil ?_
            refine qSeq rfl ?_
            refine hRet ?_
            exact fun w hs => ⟨[.bool false], ⟨rfl, trivial⟩, ⟨bB (Math.parts_no (i := i) (by omega) (Math.part_no3 c5)).symm, hs.upd⟩⟩
          · -- c5F
            replace c5 : ¬ ((ps.getD i []).sum ≠ 60) := c5
            refine hSkip ?_
            refine qSeq rfl ?_
            refine hReg (sq 0 (sq 1 sz)) (by kernel_rfl) ?_
            refine add rfl rfl rfl rfl (by omega) ?_
            refine mvI rfl rfl rfl ?_
            refine rNil ?_
            exact qNext rfl (i + 1) (by omega) ⟨by omega, Math.upto hal (Math.part_yes (by omega) (by assumption) (by omega))⟩ ⟨rfl, rfl, rfl, rfl, rfl, trivial⟩ (fun _ h => h.pick [0, 0, 0])
    · -- c2F
      replace c2 : ¬ ((i : Int) < (ny1 : Int)) := c2
      refine hExit rfl ?_
      refine qSeq rfl ?_
      refine hSeq ?_
      refine hReg (sq 0 sz) (by kernel_rfl) ?_
      refine asB rfl rfl rfl ?_
      refine rNil ?_
      refine qSeq rfl ?_
      refine hRet ?_
      exact fun w hs => ⟨[.bool true], ⟨rfl, trivial⟩, ⟨bB (Math.parts_yes (by omega) fun j hj => hal j (by omega)).symm, hs.upd⟩⟩

theorem spec_IsStrategy_c (az : Option Addr) (nz : Nat) (cz : Nat) (Hz : Nat → Hd) (z : List Nd) (aws : Option Addr) (nws : Nat) (cws : Nat) (Hws : Nat → Hd) (ws : List (List Int)) (avs : Option Addr) (nvs : Nat) (cvs : Nat) (Hvs : Nat → Hd) (vs : List (List Int)) (pl : Int) (aps : Option Addr) (nps : Nat) (cps : Nat) (Hps : Nat → Hd) (ps : List (List Int)) (w : World) (rz : RdR ndK az nz Hz z w) (rws : RdR maK aws nws Hws ws w) (rvs : RdR maK avs nvs Hvs vs w) (rps : RdR maK aps nps Hps ps w) :
    Calls Try.prog 23 #[.agg #[.slice az nz cz, .slice aws nws cws, .slice avs nvs cvs], .agg #[.int .i64 pl, .slice aps nps cps]] w (Ret fun v w' => v = .bool (Math.isStrat z ws vs pl ps) ∧ Ext w w') := by
  have kz : Kn w none_ [] (RdR ndK az nz Hz z) := fun w' hs => rz.ext hs.upd
  have lz : z.length = nz := rz.1
  have mz : nz ≤ 9223372036854775807 := rz.2.1
  have kws : Kn w none_ [] (RdR maK aws nws Hws ws) := fun w' hs => rws.ext hs.upd
  have lws : ws.length = nws := rws.1
  have mws : nws ≤ 9223372036854775807 := rws.2.1
  have kvs : Kn w none_ [] (RdR maK avs nvs Hvs vs) := fun w' hs => rvs.ext hs.upd
  have lvs : vs.length = nvs := rvs.1
  have mvs : nvs ≤ 9223372036854775807 := rvs.2.1
  have kps : Kn w none_ [] (RdR maK aps nps Hps ps) := fun w' hs => rps.ext hs.upd
  have lps : ps.length = nps := rps.1
  have mps : nps ≤ 9223372036854775807 := rps.2.1
  refine fn (M := none_) (rs := [.tmp 4]) Try.func23 rfl Try.ntmps23 rfl rfl (Sep.start _ _) ?_
  refine hSeq ?_
  refine hReg (sl 0 (sl 1 (sq 2 sz))) (by kernel_rfl) ?_
  refine box trv1 rfl rfl rfl rfl (fun bkb1 hbkb1 => ?_)
  refine box trv1 rfl rfl rfl rfl (fun bkb2 hbkb2 => ?_)
  refine asB rfl rfl rfl ?_
  refine rNil ?_
  refine qSeq rfl ?_
  refine hSeq ?_
  refine hSeq ?_
  refine hReg (sl 0 (sl 1 (sq 2 (sq 3 (sq 4 (sl 5 (sl 6 (sq 7 (sq 8 sz))))))))) (by kernel_rfl) ?_
  refine ldAl Try.isAgg35 Try.sizeOf35 (cBs 1 rfl) trv rfl rfl rfl rfl ?_
  refine callP (v := .bool (Math.isGame z ws vs)) Try.call58 trv rfl rfl (fun w hs => spec_IsGame_c _ nz cz _ _ _ nws cws _ _ _ nvs cvs _ _ w (Kn.drop (k := 2) kz w hs) (Kn.drop (k := 2) kws w hs) (Kn.drop (k := 2) kvs w hs)) ?_
  refine not rfl rfl rfl ?_
  refine mvB rfl rfl rfl ?_
  refine rBoolN (d := 11) rfl (fun g1 => ?_) (fun g1 => ?_)
  · -- g1T
    replace g1 : (Math.isGame z ws vs) = false := g1
    refine rSkipQ rfl rfl ?_
    refine rSkipL trv rfl rfl ?_
    refine rSkipL trv rfl rfl ?_
    refine rSkipQ rfl rfl ?_
    refine pickB rfl rfl rfl rfl ?_
    refine rNil ?_
    refine qSeq rfl ?_
    refine hIfT rfl ?_
    refine hSeq ?_
    refine hReg (sq 0 sz) (by kernel_rfl) ?_
    refine asB rfl rfl rfl ?_
    refine rNil ?_
    refine qSeq rfl ?_
    refine hRet ?_
    exact fun w hs => ⟨[.bool false], ⟨rfl, trivial⟩, ⟨bB (Math.strat_no1 g1).symm, hs.upd⟩⟩
  · -- g1F
    replace g1 : (Math.isGame z ws vs) = true := g1
    refine fld fl45_0 rfl rfl rfl ?_
    refine ldl Try.isAgg2 (cB 0 rfl rfl) trv rfl rfl rfl ?_
    refine callP (v := .bool ((Math.inB (0 : Int) (1 : Int) pl))) Try.call59 trv rfl rfl (fun w hs => spec_l01In_c _ _ _ w ) ?_
    refine not rfl rfl rfl ?_
    refine pickB rfl rfl rfl rfl ?_
    refine rNil ?_
    refine qSeq rfl ?_
    refine hIfN rfl (fun c2 => ?_) (fun c2 => ?_)
    · -- c2T
      replace c2 : (Math.inB (0 : Int) (1 : Int) pl) = false := c2
      replace c2 : ¬ (0 ≤ pl ∧ pl ≤ 1) := of_decide_eq_false c2
      refine hSeq ?_
      refine hReg (sq 0 sz) (by kernel_rfl) ?_
      refine asB rfl rfl rfl ?_
      refine rNil ?_
      refine qSeq rfl ?_
      refine hRet ?_
      exact fun w hs => ⟨[.bool false], ⟨rfl, trivial⟩, ⟨bB (Math.strat_no2 c2).symm, hs.upd⟩⟩
    · -- c2F
      replace c2 : (Math.inB (0 : Int) (1 : Int) pl) = true := c2
      have hpl := of_decide_eq_true (show decide (0 ≤ pl ∧ pl ≤ 1) = true from c2)
      have hG := Math.isGame_ok g1
      rw [lws] at hG
      have hT := Math.isTree_ok hG.1
      have hvl := Math.mat_len hG.2.2.2.1
      have hsl := Math.sets_len (z := z) (p := pl) (show nws ≤ 6 by omega)
      refine hSkip ?_
      refine qSeq rfl ?_
      refine hSeq ?_
      refine hReg (sl 0 (sq 1 (sl 2 (sl 3 (sq 4 sz))))) (by kernel_rfl) ?_
      refine ldAl Try.isAgg35 Try.sizeOf35 (cBs 1 rfl) trv rfl rfl rfl rfl ?_
      refine fld fl45_0 rfl rfl rfl ?_
      refine ldl Try.isAgg2 (cB 0 rfl rfl) trv rfl rfl rfl ?_
      refine callS Try.call70 trv1 rfl rfl (fun w hs => spec_l21Sets_c _ nz cz _ _ _ nws cws _ _ _ nvs cvs _ _ _ w (Kn.drop (k := 2) kz w hs) (Kn.drop (k := 2) kws w hs) (Kn.drop (k := 2) kvs w hs) (by omega) (by omega)) ?_
      rintro ⟨ay1, ny1, cy1, Hy1, y1⟩ hr1
      dsimp only at hr1
      subst y1
      refine rKnow (fun w hs => (show OwnR maK 82 2 ay1 ny1 cy1 Hy1 (Math.sets z nws pl) w from hs.at_ 0 rfl).1) (fun lenn3 => ?_)
      refine asS rfl rfl rfl ?_
      refine rNil ?_
      refine qSeq rfl ?_
      refine hSeq ?_
      refine hSeq ?_
      refine hReg (sq 0 (sl 1 (sq 2 (sq 3 (sq 4 (sq 5 sz)))))) (by kernel_rfl) ?_
      refine fld fl45_1 rfl rfl rfl ?_
      refine ldl Try.isAgg25 (cB 1 rfl rfl) trv rfl rfl rfl ?_
      refine lenS Try.runUnderlying25 rfl rfl rfl ?_
      refine mvS rfl rfl rfl ?_
      refine lenS Try.runUnderlying25 rfl rfl rfl ?_
      refine neq rfl rfl rfl rfl ?_
      refine rNil ?_
      refine qSeq rfl ?_
      refine hIfD rfl (fun c3 => ?_) (fun c3 => ?_)
      · -- c3T
        replace c3 : (nps : Int) ≠ (ny1 : Int) := c3
        refine hSeq ?_
        refine hReg (sq 0 sz) (by kernel_rfl) ?_
        refine asB rfl rfl rfl ?_
        refine rNil ?_
        refine qSeq rfl ?_
        refine hRet ?_
        exact fun w hs => ⟨[.bool false], ⟨rfl, trivial⟩, ⟨bB (((Math.parts_no0 (by omega) : Math.partsB z (Math.sets z nws pl) ps = false)).symm.trans (Math.strat_in lws g1 (by omega)).symm), hs.upd⟩⟩
      · -- c3F
        replace c3 : ¬ ((nps : Int) ≠ (ny1 : Int)) := c3
        refine hSkip ?_
        refine qSeq rfl ?_
        refine hSeq ?_
        refine hSeq ?_
        refine hReg (sq 0 sz) (by kernel_rfl) ?_
        refine asI rfl rfl rfl ?_
        refine rNil ?_
        refine qSeq rfl ?_
        refine hBlk ?_
        refine hLoop (α := Nat) (fun i => i ≤ ny1 ∧ ∀ j, j < i → Math.partB z ((Math.sets z nws pl).getD j []) (ps.getD j []) = true) (fun i => ny1 - i) (fun i => [OwnR maK 82 2 ay1 ny1 cy1 Hy1 (Math.sets z nws pl), blk bkb2 45 [.int .i64 pl, .slice aps nps cps], blk bkb1 35 [.slice az nz cz, .slice aws nws cws, .slice avs nvs cvs]]) (fun i => [(2, .pointer (some ⟨bkb1, 0, none⟩)), (3, .pointer (some ⟨bkb2, 0, none⟩)), (5, .slice ay1 ny1 cy1), (6, .int .i64 (i : Int))]) 0 ⟨Nat.zero_le _, fun j hj => by omega⟩ (fun _ h => h.pick [0, 0, 0]) ⟨rfl, rfl, rfl, rfl, trivial⟩ ?_
        rintro i τ1 ⟨hi, hal⟩
        refine hSeq ?_
        refine hSeq ?_
        refine hReg (sq 0 (sq 1 (sq 2 (sq 3 sz)))) (by kernel_rfl) ?_
        refine mvI rfl rfl rfl ?_
        refine mvS rfl rfl rfl ?_
        refine lenS Try.runUnderlying25 rfl rfl rfl ?_
        refine lss rfl rfl rfl rfl ?_
        refine rNil ?_
        refine qSeq rfl ?_
        refine hIfD rfl (fun c4 => ?_) (fun c4 => ?_)
        · -- c4T
          replace c4 : (i : Int) < (ny1 : Int) := c4
          have hsa := Math.sets_at (z := z) (k := nws) (p := pl) (i := i) (by omega)
          have hwd : Math.wide z ((Math.sets z nws pl).getD i []) ≤ 4 := Math.wide_le g1 hsa.2.1
          have hwq : Math.wide z ((Math.sets z nws pl).getD i []) = (z.getD (((Math.sets z nws pl).getD i []).getD 0 0).toNat dN).ch.length := rfl
          refine hSkip ?_
          refine qSeq rfl ?_
          refine hSeq ?_
          refine hBlk ?_
          refine hSeq ?_
          refine hSeq ?_
          refine hDraw (Ls := [OwnR maK 82 2 ay1 ny1 cy1 Hy1 (Math.sets z nws pl), blk bkb2 45 [.int .i64 pl, .slice aps nps cps], blk bkb1 35 [.slice az nz cz, .slice aws nws cws, .slice avs nvs cvs]]) (by kernel_rfl) (sq 0 (sq 1 (sq 2 (sq 3 (sq 4 (sq 5 (sq 6 (sq 7 (sq 8 (sq 9 (sq 10 (sq 11 (sq 12 (sq 13 (sq 14 (sq 15 (sq 16 (sq 17 (sq 18 (sq 19 sz)))))))))))))))))))) (by kernel_rfl) (.cons_cons _ (.cons_cons _ (.cons_cons _ .slnil))) ?_
          refine fld fl45_1 rfl rfl rfl ?_
          refine ldq Try.isAgg25 (cB 1 rfl rfl) rfl rfl rfl ?_
          refine mvI rfl rfl rfl ?_
          refine ixRq (zn := i) (ps.getD i []) el25 (Kn.drop (k := 3) kps) (fun _ h => h.pick [0, 0, 0]) rfl rfl rfl rfl (by omega) (by omega) rfl (nth [] (by omega)) ?_
          intro be2 oe2 e2
          refine ldq Try.isAgg82 (Kn.fld e2 0 rfl) rfl rfl rfl ?_
          refine lenS Try.runUnderlying82 rfl rfl rfl ?_
          refine fld fl35_0 rfl rfl rfl ?_
          refine fld fl33_0 rfl rfl rfl ?_
          refine ldq Try.isAgg31 (cB 2 rfl rfl) rfl rfl rfl ?_
          refine mvS rfl rfl rfl ?_
          refine mvI rfl rfl rfl ?_
          refine ixRq (zn := i) ((Math.sets z nws pl).getD i []) el25 ((Kn.at_ 0 rfl).imp fun _ h => OwnR.rd h maK.ok) (fun _ h => h.pick [0, 0, 0]) rfl rfl rfl rfl (by omega) (by omega) rfl (nth [] (by omega)) ?_
          intro be3 oe3 e3
          refine ldq Try.isAgg82 (Kn.fld e3 0 rfl) rfl rfl rfl ?_
          refine ixIq (zn := 0) el82 ((Kn.imp ((Kn.at_ (φ := OwnR maK 82 2 ay1 ny1 cy1 Hy1 (Math.sets z nws pl)) 0 rfl).imp fun _ h => OwnR.rd h maK.ok) fun _ h => h.kidM (nth [] (by omega)))) (fun _ h => h.pick [0, 0, 0]) rfl rfl rfl rfl (by omega) (by omega) rfl ?_
          intro ae4 e4
          refine ldq Try.isAgg2 (e4) rfl rfl rfl ?_
          refine ixRq (zn := (((((Math.sets z nws pl).getD i [])).getD 0 0)).toNat) (z.getD ((((((Math.sets z nws pl).getD i [])).getD 0 0)).toNat) dN) el31 (Kn.drop (k := 3) kz) (fun _ h => h.pick [0, 0, 0]) rfl rfl rfl rfl (by omega) (by omega) rfl (nth dN (by omega)) ?_
          intro be5 oe5 e5
          refine fld fl84_4 rfl rfl rfl ?_
          refine ldq Try.isAgg82 (Kn.fld e5 4 rfl) rfl rfl rfl ?_
          refine lenS Try.runUnderlying82 rfl rfl rfl ?_
          refine neq rfl rfl rfl rfl ?_
          refine rNil ?_
          refine qSeq rfl ?_
          refine hIfD rfl (fun c5 => ?_) (fun c5 => ?_)
          · -- c5T
            replace c5 : (((ps.getD i []).length : Nat) : Int) ≠ ((((z.getD ((((((Math.sets z nws pl).getD i [])).getD 0 0)).toNat) dN).ch).length : Nat) : Int) := c5
            refine hSeq ?_
            refine hReg (sq 0 sz) (by kernel_rfl) ?_
            refine asB rfl rfl rfl ?_
            refine rNil ?_
            refine qSeq rfl ?_
            refine hRet ?_
            exact fun w hs => ⟨[.bool false], ⟨rfl, trivial⟩, ⟨bB (((Math.parts_no (i := i) (by omega) (Math.part_no1 c5) : Math.partsB z (Math.sets z nws pl) ps = false)).symm.trans (Math.strat_in lws g1 (by omega)).symm), hs.upd⟩⟩
          · -- c5F
            replace c5 : ¬ ((((ps.getD i []).length : Nat) : Int) ≠ ((((z.getD ((((((Math.sets z nws pl).getD i [])).getD 0 0)).toNat) dN).ch).length : Nat) : Int)) := c5
            refine hSkip ?_
            refine qSeq rfl ?_
            refine hSeq ?_
            refine hSeq ?_
            refine hReg (sq 0 sz) (by kernel_rfl) ?_
            refine asI rfl rfl rfl ?_
            refine rNil ?_
            refine qSeq rfl ?_
            refine hBlk ?_
            refine hLoop (α := Nat) (fun j => j ≤ (ps.getD i []).length ∧ ∀ q, q < j → Math.inB 0 60 ((ps.getD i []).getD q 0) = true) (fun j => (ps.getD i []).length - j) (fun j => [OwnR maK 82 2 ay1 ny1 cy1 Hy1 (Math.sets z nws pl), blk bkb2 45 [.int .i64 pl, .slice aps nps cps], blk bkb1 35 [.slice az nz cz, .slice aws nws cws, .slice avs nvs cvs]]) (fun j => [(2, .pointer (some ⟨bkb1, 0, none⟩)), (3, .pointer (some ⟨bkb2, 0, none⟩)), (5, .slice ay1 ny1 cy1), (6, .int .i64 (i : Int)), (7, .int .i64 (j : Int))]) 0 ⟨Nat.zero_le _, fun q hq => by omega⟩ (fun _ h => h.pick [0, 0, 0]) ⟨rfl, rfl, rfl, rfl, rfl, trivial⟩ ?_
            rintro j τ2 ⟨hj, hin⟩
            refine hSeq ?_
            refine hSeq ?_
            refine hReg (sq 0 (sq 1 (sl 2 (sq 3 (sq 4 (sl 5 (sq 6 (sq 7 sz)))))))) (by kernel_rfl) ?_
            refine mvI rfl rfl rfl ?_
            refine fld fl45_1 rfl rfl rfl ?_
            refine ldl Try.isAgg25 (cB 1 rfl rfl) trv rfl rfl rfl ?_
            refine mvI rfl rfl rfl ?_
            refine ixRl (zn := i) (ps.getD i []) el25 (Kn.drop (k := 3) kps) rfl rfl rfl rfl (by omega) (by omega) rfl (nth [] (by omega)) ?_
            intro be6 oe6 e6
            refine ldl Try.isAgg82 (Kn.fld e6 0 rfl) trv rfl rfl rfl ?_
            refine lenS Try.runUnderlying82 rfl rfl rfl ?_
            refine lss rfl rfl rfl rfl ?_
            refine rNil ?_
            refine qSeq rfl ?_
            refine hIfD rfl (fun c6 => ?_) (fun c6 => ?_)
            · -- c6T
              replace c6 : (j : Int) < (((ps.getD i []).length : Nat) : Int) := c6
              refine hSkip ?_
              refine qSeq rfl ?_
              refine hSeq ?_
              refine hBlk ?_
              refine hSeq ?_
              refine hReg (sq 0 (sl 1 (sq 2 (sq 3 (sl 4 (sq 5 (sq 6 (sl 7 (sl 8 (sq 9 sz)))))))))) (by kernel_rfl) ?_
              refine fld fl45_1 rfl rfl rfl ?_
              refine ldl Try.isAgg25 (cB 1 rfl rfl) trv rfl rfl rfl ?_
              refine mvI rfl rfl rfl ?_
              refine ixRl (zn := i) (ps.getD i []) el25 (Kn.drop (k := 3) kps) rfl rfl rfl rfl (by omega) (by omega) rfl (nth [] (by omega)) ?_
              intro be7 oe7 e7
              refine ldl Try.isAgg82 (Kn.fld e7 0 rfl) trv rfl rfl rfl ?_
              refine mvI rfl rfl rfl ?_
              refine ixIl (zn := j) el82 (Kn.drop (k := 3) ((Kn.imp kps fun _ h => h.kidM (nth [] (by omega))))) rfl rfl rfl rfl (by omega) (by omega) rfl ?_
              intro ae8 e8
              refine ldl Try.isAgg2 (e8) trv rfl rfl rfl ?_
              refine callP (v := .bool ((Math.inB (0 : Int) (60 : Int) (((ps.getD i []).getD j 0))))) Try.call59 trv rfl rfl (fun w hs => spec_l01In_c _ _ _ w ) ?_
              refine not rfl rfl rfl ?_
              refine rNil ?_
              refine qSeq rfl ?_
              refine hIfN rfl (fun c7 => ?_) (fun c7 => ?_)
              · -- c7T
                replace c7 : (Math.inB (0 : Int) (60 : Int) (((ps.getD i []).getD j 0))) = false := c7
                refine hSeq ?_
                refine hReg (sq 0 sz) (by kernel_rfl) ?_
                refine asB rfl rfl rfl ?_
                refine rNil ?_
                refine qSeq rfl ?_
                refine hRet ?_
                exact fun w hs => ⟨[.bool false], ⟨rfl, trivial⟩, ⟨bB (((Math.parts_no (i := i) (by omega) (Math.part_no2 (Math.all_no 0 (i := j) (by omega) c7)) : Math.partsB z (Math.sets z nws pl) ps = false)).symm.trans (Math.strat_in lws g1 (by omega)).symm), hs.upd⟩⟩
              · -- c7F
                replace c7 : (Math.inB (0 : Int) (60 : Int) (((ps.getD i []).getD j 0))) = true := c7
                refine hSkip ?_
                refine qSeq rfl ?_
                refine hReg (sq 0 (sq 1 (sq 2 sz))) (by kernel_rfl) ?_
                refine mvI rfl rfl rfl ?_
                refine add rfl rfl rfl rfl (by omega) ?_
                refine asI rfl rfl rfl ?_
                refine rNil ?_
                exact qNext rfl (j + 1) (by omega) ⟨by omega, Math.upto hin (by assumption)⟩ ⟨rfl, rfl, rfl, rfl, rfl, trivial⟩ (fun _ h => h.pick [0, 0, 0])
            · -- c6F
              replace c6 : ¬ ((j : Int) < (((ps.getD i []).length : Nat) : Int)) := c6
              have hb2 : (ps.getD i []).all (Math.inB 0 60) = true := (Math.all_getD 0).2 fun q hq => hin q (by omega)
              have hb := Math.all60 hb2
              refine hExit rfl ?_
              refine qSeq rfl ?_
              refine hSeq ?_
              refine hReg (sq 0 (sl 1 (sq 2 (sq 3 (sl 4 (sl 5 (sq 6 sz))))))) (by kernel_rfl) ?_
              refine fld fl45_1 rfl rfl rfl ?_
              refine ldl Try.isAgg25 (cB 1 rfl rfl) trv rfl rfl rfl ?_
              refine mvI rfl rfl rfl ?_
              refine ixRl (zn := i) (ps.getD i []) el25 (Kn.drop (k := 3) kps) rfl rfl rfl rfl (by omega) (by omega) rfl (nth [] (by omega)) ?_
              intro be9 oe9 e9
              refine ldl Try.isAgg82 (Kn.fld e9 0 rfl) trv rfl rfl rfl ?_
              refine callP (v := .int .i64 ((ps.getD i []).sum)) Try.call71 trv rfl rfl (fun w hs => spec_l01Sum_c _ ((ps.getD i []).length) ((Hps i).2) _ w (Kn.drop (k := 3) ((Kn.imp kps fun _ h => h.kidM (nth [] (by omega)))) w hs) (by assumption) (by omega)) ?_
              refine neq rfl rfl rfl rfl ?_
              refine rNil ?_
              refine qSeq rfl ?_
              refine hIfD rfl (fun c8 => ?_) (fun c8 => ?_)
              · -- c8T
                replace c8 : (ps.getD i []).sum ≠ 60 := c8
                refine hSeq ?_
                refine hReg (sq 0 sz) (by kernel_rfl) ?_
                refine asB rfl rfl rfl ?_
                refine rNil ?_
                refine qSeq rfl ?_
                refine hRet ?_
                exact fun w hs => ⟨[.bool false], ⟨rfl, trivial⟩, ⟨bB (((Math.parts_no (i := i) (by omega) (Math.part_no3 c8) : Math.partsB z (Math.sets z nws pl) ps = false)).symm.trans (Math.strat_in lws g1 (by omega)).symm), hs.upd⟩⟩
              · -- c8F
                replace c8 : ¬ ((ps.getD i []).sum ≠ 60) := c8
                refine hSkip ?_
                refine qSeq rfl ?_
                refine hReg (sq 0 (sq 1 (sq 2 sz))) (by kernel_rfl) ?_
                refine mvI rfl rfl rfl ?_
                refine add rfl rfl rfl rfl (by omega) ?_
                refine asI rfl rfl rfl ?_
                refine rNil ?_
                exact qNext rfl (i + 1) (by omega) ⟨by omega, Math.upto hal (Math.part_yes (by omega) hb2 (by omega))⟩ ⟨rfl, rfl, rfl, rfl, trivial⟩ (fun _ h => h.pick [0, 0, 0])
        · -- c4F
          replace c4 : ¬ ((i : Int) < (ny1 : Int)) := c4
          refine hExit rfl ?_
          refine qSeq rfl ?_
          refine hSeq ?_
          refine hReg (sq 0 sz) (by kernel_rfl) ?_
          refine asB rfl rfl rfl ?_
          refine rNil ?_
          refine qSeq rfl ?_
          refine hRet ?_
          exact fun w hs => ⟨[.bool true], ⟨rfl, trivial⟩, ⟨bB (((Math.parts_yes (by omega) (fun j hj => hal j (by omega)) : Math.partsB z (Math.sets z nws pl) ps = true)).symm.trans (Math.strat_in lws g1 (by omega)).symm), hs.upd⟩⟩

theorem impl_IsStrategy_c (az : Option Addr) (nz : Nat) (cz : Nat) (Hz : Nat → Hd) (z : List Nd) (aws : Option Addr) (nws : Nat) (cws : Nat) (Hws : Nat → Hd) (ws : List (List Int)) (avs : Option Addr) (nvs : Nat) (cvs : Nat) (Hvs : Nat → Hd) (vs : List (List Int)) (pl : Int) (aps : Option Addr) (nps : Nat) (cps : Nat) (Hps : Nat → Hd) (ps : List (List Int)) (w : World) (rz : RdR ndK az nz Hz z w) (rws : RdR maK aws nws Hws ws w) (rvs : RdR maK avs nvs Hvs vs w) (rps : RdR maK aps nps Hps ps w) :
    Calls Try.prog 25 #[.agg #[.slice az nz cz, .slice aws nws cws, .slice avs nvs cvs], .agg #[.int .i64 pl, .slice aps nps cps]] w (Ret fun v w' => v = .bool (Math.isStrat z ws vs pl ps) ∧ Ext w w') := by
  have kz : Kn w none_ [] (RdR ndK az nz Hz z) := fun w' hs => rz.ext hs.upd
  have lz : z.length = nz := rz.1
  have mz : nz ≤ 9223372036854775807 := rz.2.1
  have kws : Kn w none_ [] (RdR maK aws nws Hws ws) := fun w' hs => rws.ext hs.upd
  have lws : ws.length = nws := rws.1
  have mws : nws ≤ 9223372036854775807 := rws.2.1
  have kvs : Kn w none_ [] (RdR maK avs nvs Hvs vs) := fun w' hs => rvs.ext hs.upd
  have lvs : vs.length = nvs := rvs.1
  have mvs : nvs ≤ 9223372036854775807 := rvs.2.1
  have kps : Kn w none_ [] (RdR maK aps nps Hps ps) := fun w' hs => rps.ext hs.upd
  have lps : ps.length = nps := rps.1
  have mps : nps ≤ 9223372036854775807 := rps.2.1
  refine fn (M := none_) (rs := [.tmp 4]) Try.func25 rfl Try.ntmps25 rfl rfl (Sep.start _ _) ?_
  refine hSeq ?_
  refine hReg (sl 0 (sl 1 (sq 2 sz))) (by kernel_rfl) ?_
  refine box trv1 rfl rfl rfl rfl (fun bkb1 hbkb1 => ?_)
  refine box trv1 rfl rfl rfl rfl (fun bkb2 hbkb2 => ?_)
  refine asB rfl rfl rfl ?_
  refine rNil ?_
  refine qSeq rfl ?_
  refine hSeq ?_
  refine hSeq ?_
  refine hReg (sl 0 (sl 1 (sq 2 (sq 3 (sq 4 (sl 5 (sl 6 (sq 7 (sq 8 sz))))))))) (by kernel_rfl) ?_
  refine ldAl Try.isAgg35 Try.sizeOf35 (cBs 1 rfl) trv rfl rfl rfl rfl ?_
  refine callP (v := .bool (Math.isGame z ws vs)) Try.call63 trv rfl rfl (fun w hs => impl_IsGame_c _ nz cz _ _ _ nws cws _ _ _ nvs cvs _ _ w (Kn.drop (k := 2) kz w hs) (Kn.drop (k := 2) kws w hs) (Kn.drop (k := 2) kvs w hs)) ?_
  refine not rfl rfl rfl ?_
  refine mvB rfl rfl rfl ?_
  refine rBoolN (d := 8) rfl (fun g1 => ?_) (fun g1 => ?_)
  · -- g1T
    replace g1 : (Math.isGame z ws vs) = false := g1
    refine rSkipQ rfl rfl ?_
    refine rSkipL trv rfl rfl ?_
    refine rSkipL trv rfl rfl ?_
    refine rSkipQ rfl rfl ?_
    refine pickB rfl rfl rfl rfl ?_
    refine rNil ?_
    refine qSeq rfl ?_
    refine hIfT rfl ?_
    refine hSeq ?_
    refine hReg (sq 0 sz) (by kernel_rfl) ?_
    refine asB rfl rfl rfl ?_
    refine rNil ?_
    refine qSeq rfl ?_
    refine hRet ?_
    exact fun w hs => ⟨[.bool false], ⟨rfl, trivial⟩, ⟨bB (Math.strat_no1 g1).symm, hs.upd⟩⟩
  · -- g1F
    replace g1 : (Math.isGame z ws vs) = true := g1
    refine fld fl45_0 rfl rfl rfl ?_
    refine ldl Try.isAgg2 (cB 0 rfl rfl) trv rfl rfl rfl ?_
    refine callP (v := .bool ((Math.inB (0 : Int) (1 : Int) pl))) Try.call64 trv rfl rfl (fun w hs => impl_within_c _ _ _ w ) ?_
    refine not rfl rfl rfl ?_
    refine pickB rfl rfl rfl rfl ?_
    refine rNil ?_
    refine qSeq rfl ?_
    refine hIfN rfl (fun c2 => ?_) (fun c2 => ?_)
    · -- c2T
      replace c2 : (Math.inB (0 : Int) (1 : Int) pl) = false := c2
      replace c2 : ¬ (0 ≤ pl ∧ pl ≤ 1) := of_decide_eq_false c2
      refine hSeq ?_
      refine hReg (sq 0 sz) (by kernel_rfl) ?_
      refine asB rfl rfl rfl ?_
      refine rNil ?_
      refine qSeq rfl ?_
      refine hRet ?_
      exact fun w hs => ⟨[.bool false], ⟨rfl, trivial⟩, ⟨bB (Math.strat_no2 c2).symm, hs.upd⟩⟩
    · -- c2F
      replace c2 : (Math.inB (0 : Int) (1 : Int) pl) = true := c2
      have hpl := of_decide_eq_true (show decide (0 ≤ pl ∧ pl ≤ 1) = true from c2)
      refine hSkip ?_
      refine qSeq rfl ?_
      refine hSeq ?_
      refine hReg (sl 0 (sl 1 (sl 2 (sq 3 sz)))) (by kernel_rfl) ?_
      refine ldAl Try.isAgg35 Try.sizeOf35 (cBs 1 rfl) trv rfl rfl rfl rfl ?_
      refine ldAl Try.isAgg45 Try.sizeOf45 (cBs 0 rfl) trv rfl rfl rfl rfl ?_
      refine callP (v := .bool ((Math.partsB z (Math.sets z nws pl) ps))) Try.call72 trv rfl rfl (fun w hs => impl_isStrategy_c _ nz cz _ _ _ nws cws _ _ _ nvs cvs _ _ _ _ nps cps _ _ w (Kn.drop (k := 2) kz w hs) (Kn.drop (k := 2) kws w hs) (Kn.drop (k := 2) kvs w hs) (Kn.drop (k := 2) kps w hs) (by assumption)) ?_
      refine asB rfl rfl rfl ?_
      refine rNil ?_
      refine qSeq rfl ?_
      refine hRet ?_
      exact fun w hs => ⟨[.bool ((Math.partsB z (Math.sets z nws pl) ps))], ⟨rfl, trivial⟩, ⟨bB (Math.strat_in lws g1 hpl).symm, hs.upd⟩⟩

theorem impl_CountPure_c (az : Option Addr) (nz : Nat) (cz : Nat) (Hz : Nat → Hd) (z : List Nd) (aws : Option Addr) (nws : Nat) (cws : Nat) (Hws : Nat → Hd) (ws : List (List Int)) (avs : Option Addr) (nvs : Nat) (cvs : Nat) (Hvs : Nat → Hd) (vs : List (List Int)) (p : Int) (w : World) (rz : RdR ndK az nz Hz z w) (rws : RdR maK aws nws Hws ws w) (rvs : RdR maK avs nvs Hvs vs w) :
    Calls Try.prog 21 #[.agg #[.slice az nz cz, .slice aws nws cws, .slice avs nvs cvs], .int .i64 p] w (Ret fun v w' => v = .tuple #[.int .i64 ((Math.countOf z ws vs p).1), .int .i64 ((Math.countOf z ws vs p).2)] ∧ Ext w w') := by
  have kz : Kn w none_ [] (RdR ndK az nz Hz z) := fun w' hs => rz.ext hs.upd
  have lz : z.length = nz := rz.1
  have mz : nz ≤ 9223372036854775807 := rz.2.1
  have kws : Kn w none_ [] (RdR maK aws nws Hws ws) := fun w' hs => rws.ext hs.upd
  have lws : ws.length = nws := rws.1
  have mws : nws ≤ 9223372036854775807 := rws.2.1
  have kvs : Kn w none_ [] (RdR maK avs nvs Hvs vs) := fun w' hs => rvs.ext hs.upd
  have lvs : vs.length = nvs := rvs.1
  have mvs : nvs ≤ 9223372036854775807 := rvs.2.1
  refine fn (M := none_) (rs := [.tmp 4, .tmp 5]) Try.func21 rfl Try.ntmps21 rfl rfl (Sep.start _ _) ?_
  refine hSeq ?_
  refine hReg (sl 0 (sq 1 (sq 2 sz))) (by kernel_rfl) ?_
  refine box trv1 rfl rfl rfl rfl (fun bkb1 hbkb1 => ?_)
  refine asI rfl rfl rfl ?_
  refine asI rfl rfl rfl ?_
  refine rNil ?_
  refine qSeq rfl ?_
  refine hSeq ?_
  refine hSeq ?_
  refine hReg (sl 0 (sl 1 (sq 2 sz))) (by kernel_rfl) ?_
  refine ldAl Try.isAgg35 Try.sizeOf35 (cBs 0 rfl) trv rfl rfl rfl rfl ?_
  refine callP (v := .bool (Math.isGame z ws vs)) Try.call63 trv rfl rfl (fun w hs => impl_IsGame_c _ nz cz _ _ _ nws cws _ _ _ nvs cvs _ _ w (Kn.drop (k := 1) kz w hs) (Kn.drop (k := 1) kws w hs) (Kn.drop (k := 1) kvs w hs)) ?_
  refine not rfl rfl rfl ?_
  refine rNil ?_
  refine qSeq rfl ?_
  refine hIfN rfl (fun c1 => ?_) (fun c1 => ?_)
  · -- c1T
    replace c1 : (Math.isGame z ws vs) = false := c1
    refine hSeq ?_
    refine hReg (sq 0 (sq 1 sz)) (by kernel_rfl) ?_
    refine asI rfl rfl rfl ?_
    refine asI rfl rfl rfl ?_
    refine rNil ?_
    refine qSeq rfl ?_
    refine hRet ?_
    exact fun w hs => ⟨[.int .i64 0, .int .i64 1], ⟨rfl, ⟨rfl, trivial⟩⟩, ⟨by rw [show Math.countOf z ws vs p = (0, 1) from by simp [Math.countOf, c1]]; rfl, hs.upd⟩⟩
  · -- c1F
    replace c1 : (Math.isGame z ws vs) = true := c1
    have hG := Math.isGame_ok c1
    rw [lws] at hG
    have hT := Math.isTree_ok hG.1
    have hvl := Math.mat_len hG.2.2.2.1
    have hsl := Math.sets_len (z := z) (p := p) (show nws ≤ 6 by omega)
    refine hSkip ?_
    refine qSeq rfl ?_
    refine hSeq ?_
    refine hSeq ?_
    refine hReg (sq 0 (sl 1 (sq 2 sz))) (by kernel_rfl) ?_
    refine mvI rfl rfl rfl ?_
    refine callP (v := .bool (decide ((0 : Int) ≤ p ∧ p ≤ (1 : Int)))) Try.call64 trv rfl rfl (fun w hs => impl_within_c _ _ _ w ) ?_
    refine notD rfl rfl rfl ?_
    refine rNil ?_
    refine qSeq rfl ?_
    refine hIfD rfl (fun c2 => ?_) (fun c2 => ?_)
    · -- c2T
      replace c2 : ¬ ((0 : Int) ≤ p ∧ p ≤ (1 : Int)) := c2
      refine hSeq ?_
      refine hReg (sq 0 (sq 1 sz)) (by kernel_rfl) ?_
      refine asI rfl rfl rfl ?_
      refine asI rfl rfl rfl ?_
      refine rNil ?_
      refine qSeq rfl ?_
      refine hRet ?_
      exact fun w hs => ⟨[.int .i64 0, .int .i64 2], ⟨rfl, ⟨rfl, trivial⟩⟩, ⟨by rw [show Math.countOf z ws vs p = (0, 2) from by unfold Math.countOf; rw [if_pos c1, if_neg c2]]; rfl, hs.upd⟩⟩
    · -- c2F
      replace c2 : ¬ (¬ ((0 : Int) ≤ p ∧ p ≤ (1 : Int))) := c2
      replace c2 := Classical.not_not.1 c2
      refine hSkip ?_
      refine qSeq rfl ?_
      refine hSeq ?_
      refine hReg (sq 0 sz) (by kernel_rfl) ?_
      refine asI rfl rfl rfl ?_
      refine rNil ?_
      refine qSeq rfl ?_
      refine hSeq ?_
      refine hSeq ?_
      refine hReg (sl 0 (sq 1 (sl 2 (sq 3 (sq 4 sz))))) (by kernel_rfl) ?_
      refine ldAl Try.isAgg35 Try.sizeOf35 (cBs 0 rfl) trv rfl rfl rfl rfl ?_
      refine mvI rfl rfl rfl ?_
      refine callS Try.call69 trv1 rfl rfl (fun w hs => impl_infoSets_c _ nz cz _ _ _ nws cws _ _ _ nvs cvs _ _ _ w (Kn.drop (k := 1) kz w hs) (Kn.drop (k := 1) kws w hs) (Kn.drop (k := 1) kvs w hs) (by omega) (by omega)) ?_
      rintro ⟨ay1, ny1, cy1, Hy1, y1⟩ hr1
      dsimp only at hr1
      subst y1
      refine rKnow (fun w hs => (show OwnR maK 82 2 ay1 ny1 cy1 Hy1 (Math.sets z nws p) w from hs.at_ 0 rfl).1) (fun lenn2 => ?_)
      refine lenS Try.runUnderlying25 rfl rfl rfl ?_
      refine mvI rfl rfl rfl ?_
      refine rNil ?_
      refine qSeq rfl ?_
      refine hBlk ?_
      refine hLoop (α := Nat × Int) (fun x => x.1 ≤ ny1 ∧ (0 ≤ x.2 ∧ x.2 ≤ 1000000000) ∧ Math.countL ((Math.sizes z (Math.sets z nws p)).drop x.1) x.2 = Math.countL (Math.sizes z (Math.sets z nws p)) 1) (fun x => ny1 - x.1) (fun x => [OwnR maK 82 2 ay1 ny1 cy1 Hy1 (Math.sets z nws p), blk bkb1 35 [.slice az nz cz, .slice aws nws cws, .slice avs nvs cvs]]) (fun x => [(2, .pointer (some ⟨bkb1, 0, none⟩)), (6, .int .i64 x.2), (17, .slice ay1 ny1 cy1), (18, .int .i64 (ny1 : Int)), (19, .int .i64 (x.1 : Int))]) (0, 1) ⟨Nat.zero_le _, by decide, rfl⟩ (fun _ h => h.pick [0, 0]) ⟨rfl, rfl, rfl, rfl, rfl, trivial⟩ ?_
      rintro ⟨i, n⟩ τ1 ⟨hi, hn, hw⟩
      dsimp only at hi hn hw
      refine hRe [(2, .pointer (some ⟨bkb1, 0, none⟩)), (6, .int .i64 n), (17, .slice ay1 ny1 cy1), (18, .int .i64 (ny1 : Int)), (19, .int .i64 (i : Int))] [OwnR maK 82 2 ay1 ny1 cy1 Hy1 (Math.sets z nws p), blk bkb1 35 [.slice az nz cz, .slice aws nws cws, .slice avs nvs cvs]] rfl rfl ?_
      refine hSeq ?_
      refine hReg (sq 0 sz) (by kernel_rfl) ?_
      refine lss rfl rfl rfl rfl ?_
      refine rNil ?_
      refine qSeq rfl ?_
      refine hSeq ?_
      refine hIfD rfl (fun c3 => ?_) (fun c3 => ?_)
      · -- c3T
        replace c3 : (i : Int) < (ny1 : Int) := c3
        have hsa := Math.sets_at (z := z) (k := nws) (p := p) (i := i) (by omega)
        have hwd : Math.wide z ((Math.sets z nws p).getD i []) ≤ 4 := Math.wide_le c1 hsa.2.1
        have hwq : Math.wide z ((Math.sets z nws p).getD i []) = (z.getD (((Math.sets z nws p).getD i []).getD 0 0).toNat dN).ch.length := rfl
        have hmb := Math.mul_bd hn.1 hn.2 (show (0 : Int) ≤ ((z.getD (((Math.sets z nws p).getD i []).getD 0 0).toNat dN).ch.length : Int) by omega) (show ((z.getD (((Math.sets z nws p).getD i []).getD 0 0).toNat dN).ch.length : Int) ≤ 4 by omega)
        refine hSkip ?_
        refine qSeq rfl ?_
        refine hSeq ?_
        refine hBlk ?_
        refine hSeq ?_
        refine hReg (sq 0 (sl 1 (sq 2 sz))) (by kernel_rfl) ?_
        refine ixRl (zn := i) ((Math.sets z nws p).getD i []) el25 ((Kn.at_ 0 rfl).imp fun _ h => OwnR.rd h maK.ok) rfl rfl rfl rfl (by omega) (by omega) rfl (nth [] (by omega)) ?_
        intro be2 oe2 e2
        refine ldl Try.isAgg82 (Kn.fld e2 0 rfl) trv rfl rfl rfl ?_
        refine asS rfl rfl rfl ?_
        refine rNil ?_
        refine qSeq rfl ?_
        refine hSeq ?_
        refine hDraw (Ls := [OwnR maK 82 2 ay1 ny1 cy1 Hy1 (Math.sets z nws p), blk bkb1 35 [.slice az nz cz, .slice aws nws cws, .slice avs nvs cvs]]) (by kernel_rfl) (sq 0 (sq 1 (sq 2 (sq 3 (sq 4 (sq 5 (sq 6 (sq 7 (sq 8 (sq 9 (sq 10 (sq 11 (sq 12 sz))))))))))))) (by kernel_rfl) (.cons_cons _ (.cons_cons _ .slnil)) ?_
        refine mvI rfl rfl rfl ?_
        refine fld fl35_0 rfl rfl rfl ?_
        refine fld fl33_0 rfl rfl rfl ?_
        refine ldq Try.isAgg31 (cB 1 rfl rfl) rfl rfl rfl ?_
        refine mvS rfl rfl rfl ?_
        refine ixIq (zn := 0) el82 ((Kn.imp ((Kn.at_ (φ := OwnR maK 82 2 ay1 ny1 cy1 Hy1 (Math.sets z nws p)) 0 rfl).imp fun _ h => OwnR.rd h maK.ok) fun _ h => h.kidM (nth [] (by omega)))) (fun _ h => h.pick [0, 0]) rfl rfl rfl rfl (by omega) (by omega) rfl ?_
        intro ae3 e3
        refine ldq Try.isAgg2 (e3) rfl rfl rfl ?_
        refine ixRq (zn := (((((Math.sets z nws p).getD i [])).getD 0 0)).toNat) (z.getD ((((((Math.sets z nws p).getD i [])).getD 0 0)).toNat) dN) el31 (Kn.drop (k := 2) kz) (fun _ h => h.pick [0, 0]) rfl rfl rfl rfl (by omega) (by omega) rfl (nth dN (by omega)) ?_
        intro be4 oe4 e4
        refine fld fl84_4 rfl rfl rfl ?_
        refine ldq Try.isAgg82 (Kn.fld e4 4 rfl) rfl rfl rfl ?_
        refine lenS Try.runUnderlying82 rfl rfl rfl ?_
        refine mul rfl rfl rfl rfl (by omega) ?_
        refine asI rfl rfl rfl ?_
        refine rNil ?_
        refine qSeq rfl ?_
        refine hSeq ?_
        refine hReg (sq 0 (sq 1 sz)) (by kernel_rfl) ?_
        refine mvI rfl rfl rfl ?_
        refine gtr rfl rfl rfl rfl ?_
        refine rNil ?_
        refine qSeq rfl ?_
        refine hIfD rfl (fun c4 => ?_) (fun c4 => ?_)
        · -- c4T
          replace c4 : 1000000000 < (n * ((((z.getD ((((((Math.sets z nws p).getD i [])).getD 0 0)).toNat) dN).ch).length : Nat) : Int)) := c4
          refine hSeq ?_
          refine hReg (sq 0 (sq 1 sz)) (by kernel_rfl) ?_
          refine asI rfl rfl rfl ?_
          refine asI rfl rfl rfl ?_
          refine rNil ?_
          refine qSeq rfl ?_
          refine hRet ?_
          exact fun w hs => ⟨[.int .i64 0, .int .i64 3], ⟨rfl, ⟨rfl, trivial⟩⟩, ⟨by rw [show Math.countOf z ws vs p = (0, 3) from Math.count_no lws c1 (by omega) (by rw [← hw, Math.countL_step (by rw [Math.sizes_len]; omega), Math.sizes_at (by omega), if_pos (by assumption)])]; rfl, hs.upd⟩⟩
        · -- c4F
          replace c4 : ¬ (1000000000 < (n * ((((z.getD ((((((Math.sets z nws p).getD i [])).getD 0 0)).toNat) dN).ch).length : Nat) : Int))) := c4
          refine hSkip ?_
          refine qSeq rfl ?_
          refine hReg (sq 0 (sq 1 sz)) (by kernel_rfl) ?_
          refine add rfl rfl rfl rfl (by omega) ?_
          refine mvI rfl rfl rfl ?_
          refine rNil ?_
          rw [Math.countL_step (by rw [Math.sizes_len]; omega), Math.sizes_at (by omega), if_neg (by assumption)] at hw
          exact qNext rfl ((i + 1, (n * ((z.getD (((Math.sets z nws p).getD i []).getD 0 0).toNat dN).ch.length : Int)))) (by dsimp only; omega) ⟨by dsimp only; omega, by dsimp only; omega, hw⟩ ⟨rfl, rfl, rfl, rfl, rfl, trivial⟩ (fun _ h => h.pick [0, 0])
      · -- c3F
        replace c3 : ¬ ((i : Int) < (ny1 : Int)) := c3
        refine hExit rfl ?_
        refine qSeq rfl ?_
        refine hSeq ?_
        refine hReg (sq 0 (sq 1 (sq 2 sz))) (by kernel_rfl) ?_
        refine mvI rfl rfl rfl ?_
        refine asI rfl rfl rfl ?_
        refine asI rfl rfl rfl ?_
        refine rNil ?_
        refine qSeq rfl ?_
        refine hRet ?_
        exact fun w hs => ⟨[.int .i64 n, .int .i64 0], ⟨rfl, ⟨rfl, trivial⟩⟩, ⟨by rw [show Math.countOf z ws vs p = (n, 0) from Math.count_yes lws c1 (by omega) (by rw [← hw, Math.countL_end (by rw [Math.sizes_len]; omega)])]; rfl, hs.upd⟩⟩

theorem spec_CountPure_c (az : Option Addr) (nz : Nat) (cz : Nat) (Hz : Nat → Hd) (z : List Nd) (aws : Option Addr) (nws : Nat) (cws : Nat) (Hws : Nat → Hd) (ws : List (List Int)) (avs : Option Addr) (nvs : Nat) (cvs : Nat) (Hvs : Nat → Hd) (vs : List (List Int)) (p : Int) (w : World) (rz : RdR ndK az nz Hz z w) (rws : RdR maK aws nws Hws ws w) (rvs : RdR maK avs nvs Hvs vs w) :
    Calls Try.prog 20 #[.agg #[.slice az nz cz, .slice aws nws cws, .slice avs nvs cvs], .int .i64 p] w (Ret fun v w' => v = .tuple #[.int .i64 ((Math.countOf z ws vs p).1), .int .i64 ((Math.countOf z ws vs p).2)] ∧ Ext w w') := by
  have kz : Kn w none_ [] (RdR ndK az nz Hz z) := fun w' hs => rz.ext hs.upd
  have lz : z.length = nz := rz.1
  have mz : nz ≤ 9223372036854775807 := rz.2.1
  have kws : Kn w none_ [] (RdR maK aws nws Hws ws) := fun w' hs => rws.ext hs.upd
  have lws : ws.length = nws := rws.1
  have mws : nws ≤ 9223372036854775807 := rws.2.1
  have kvs : Kn w none_ [] (RdR maK avs nvs Hvs vs) := fun w' hs => rvs.ext hs.upd
  have lvs : vs.length = nvs := rvs.1
  have mvs : nvs ≤ 9223372036854775807 := rvs.2.1
  refine fn (M := none_) (rs := [.tmp 4, .tmp 5]) Try.func20 rfl Try.ntmps20 rfl rfl (Sep.start _ _) ?_
  refine hSeq ?_
  refine hReg (sl 0 (sq 1 (sq 2 sz))) (by kernel_rfl) ?_
  refine box trv1 rfl rfl rfl rfl (fun bkb1 hbkb1 => ?_)
  refine asI rfl rfl rfl ?_
  refine asI rfl rfl rfl ?_
  refine rNil ?_
  refine qSeq rfl ?_
  refine hSeq ?_
  refine hReg (sl 0 (sq 1 (sl 2 (sq 3 sz)))) (by kernel_rfl) ?_
  refine ldAl Try.isAgg35 Try.sizeOf35 (cBs 0 rfl) trv rfl rfl rfl rfl ?_
  refine mvI rfl rfl rfl ?_
  refine callP (v := .int .i64 (Math.codeOf z ws vs p)) Try.call67 trv rfl rfl (fun w hs => spec_l22Code_c _ nz cz _ _ _ nws cws _ _ _ nvs cvs _ _ _ w (Kn.drop (k := 1) kz w hs) (Kn.drop (k := 1) kws w hs) (Kn.drop (k := 1) kvs w hs)) ?_
  refine asI rfl rfl rfl ?_
  refine rNil ?_
  refine qSeq rfl ?_
  refine hSeq ?_
  refine hSeq ?_
  refine hReg (sq 0 (sq 1 sz)) (by kernel_rfl) ?_
  refine mvI rfl rfl rfl ?_
  refine neq rfl rfl rfl rfl ?_
  refine rNil ?_
  refine qSeq rfl ?_
  refine hIfD rfl (fun c1 => ?_) (fun c1 => ?_)
  · -- c1T
    replace c1 : (Math.codeOf z ws vs p) ≠ 0 := c1
    refine hSeq ?_
    refine hReg (sq 0 (sq 1 (sq 2 sz))) (by kernel_rfl) ?_
    refine mvI rfl rfl rfl ?_
    refine asI rfl rfl rfl ?_
    refine asI rfl rfl rfl ?_
    refine rNil ?_
    refine qSeq rfl ?_
    refine hRet ?_
    exact fun w hs => ⟨[.int .i64 0, .int .i64 (Math.codeOf z ws vs p)], ⟨rfl, ⟨rfl, trivial⟩⟩, ⟨by rw [show Math.countOf z ws vs p = (0, Math.codeOf z ws vs p) from Math.count_code c1]; rfl, hs.upd⟩⟩
  · -- c1F
    replace c1 : ¬ ((Math.codeOf z ws vs p) ≠ 0) := c1
    have hgp := Math.code_ok (Classical.not_not.1 c1)
    have hg := hgp.1
    have hG := Math.isGame_ok hg
    rw [lws] at hG
    have hT := Math.isTree_ok hG.1
    have hvl := Math.mat_len hG.2.2.2.1
    have hsl := Math.sets_len (z := z) (p := p) (show nws ≤ 6 by omega)
    have hzl := Math.sizes_len (z := z) (ss := (Math.sets z nws p))
    refine hSkip ?_
    refine qSeq rfl ?_
    refine hSeq ?_
    refine hReg (sl 0 (sq 1 (sl 2 (sq 3 sz)))) (by kernel_rfl) ?_
    refine ldAl Try.isAgg35 Try.sizeOf35 (cBs 0 rfl) trv rfl rfl rfl rfl ?_
    refine mvI rfl rfl rfl ?_
    refine callS Try.call68 trv1 rfl rfl (fun w hs => spec_l22Sizes_c _ nz cz _ _ _ nws cws _ _ _ nvs cvs _ _ _ w (Kn.drop (k := 1) kz w hs) (Kn.drop (k := 1) kws w hs) (Kn.drop (k := 1) kvs w hs) (by assumption)) ?_
    rintro ⟨ay1, ny1, cy1, y1⟩ hr1
    dsimp only at hr1
    subst y1
    refine rKnow (fun w hs => (show OwnI 2 ay1 ny1 cy1 (((Math.sizes z (Math.sets z nws p)))) w from hs.at_ 0 rfl).lenz) (fun lenn2 => ?_)
    refine asS rfl rfl rfl ?_
    refine rNil ?_
    refine qSeq rfl ?_
    refine hSeq ?_
    refine hReg (sq 0 sz) (by kernel_rfl) ?_
    refine asI rfl rfl rfl ?_
    refine rNil ?_
    refine qSeq rfl ?_
    refine hSeq ?_
    refine hSeq ?_
    refine hReg (sq 0 sz) (by kernel_rfl) ?_
    refine asI rfl rfl rfl ?_
    refine rNil ?_
    refine qSeq rfl ?_
    refine hBlk ?_
    refine hLoop (α := Nat × Int) (fun x => x.1 ≤ ny1 ∧ (0 ≤ x.2 ∧ x.2 ≤ 1000000000) ∧ Math.countL ((Math.sizes z (Math.sets z nws p)).drop x.1) x.2 = Math.countL (Math.sizes z (Math.sets z nws p)) 1) (fun x => ny1 - x.1) (fun x => [OwnI 2 ay1 ny1 cy1 (((Math.sizes z (Math.sets z nws p)))), blk bkb1 35 [.slice az nz cz, .slice aws nws cws, .slice avs nvs cvs]]) (fun x => [(7, .slice ay1 ny1 cy1), (8, .int .i64 x.2), (9, .int .i64 (x.1 : Int))]) (0, 1) ⟨Nat.zero_le _, by decide, rfl⟩ (fun _ h => h.pick [0, 0]) ⟨rfl, rfl, rfl, trivial⟩ ?_
    rintro ⟨i, n⟩ τ1 ⟨hi, hn, hw⟩
    dsimp only at hi hn hw
    refine hRe [(7, .slice ay1 ny1 cy1), (8, .int .i64 n), (9, .int .i64 (i : Int))] [OwnI 2 ay1 ny1 cy1 (((Math.sizes z (Math.sets z nws p)))), blk bkb1 35 [.slice az nz cz, .slice aws nws cws, .slice avs nvs cvs]] rfl rfl ?_
    refine hSeq ?_
    refine hSeq ?_
    refine hReg (sq 0 (sq 1 (sq 2 (sq 3 sz)))) (by kernel_rfl) ?_
    refine mvI rfl rfl rfl ?_
    refine mvS rfl rfl rfl ?_
    refine lenS Try.runUnderlying82 rfl rfl rfl ?_
    refine lss rfl rfl rfl rfl ?_
    refine rNil ?_
    refine qSeq rfl ?_
    refine hIfD rfl (fun c2 => ?_) (fun c2 => ?_)
    · -- c2T
      replace c2 : (i : Int) < (ny1 : Int) := c2
      have hsa := Math.sets_at (z := z) (k := nws) (p := p) (i := i) (by omega)
      have hwd : Math.wide z ((Math.sets z nws p).getD i []) ≤ 4 := Math.wide_le hg hsa.2.1
      have hwq : Math.wide z ((Math.sets z nws p).getD i []) = (z.getD (((Math.sets z nws p).getD i []).getD 0 0).toNat dN).ch.length := rfl
      have hsz : ((Math.sizes z (Math.sets z nws p)).getD i 0) = (Math.wide z ((Math.sets z nws p).getD i []) : Int) := Math.sizes_at (by omega)
      have hmb := Math.mul_bd hn.1 hn.2 (show (0 : Int) ≤ ((Math.sizes z (Math.sets z nws p)).getD i 0) by omega) (show ((Math.sizes z (Math.sets z nws p)).getD i 0) ≤ 4 by omega)
      refine hSkip ?_
      refine qSeq rfl ?_
      refine hSeq ?_
      refine hBlk ?_
      refine hSeq ?_
      refine hReg (sq 0 (sq 1 (sq 2 (sq 3 (sl 4 (sq 5 (sq 6 sz))))))) (by kernel_rfl) ?_
      refine mvI rfl rfl rfl ?_
      refine mvS rfl rfl rfl ?_
      refine mvI rfl rfl rfl ?_
      refine ixIl (zn := i) el82 ((Kn.at_ 0 rfl).imp fun _ h => OwnI.rd h) rfl rfl rfl rfl (by omega) (by omega) rfl ?_
      intro ae2 e2
      refine ldl Try.isAgg2 (e2) trv rfl rfl rfl ?_
      refine mul rfl rfl rfl rfl (by omega) ?_
      refine asI rfl rfl rfl ?_
      refine rNil ?_
      refine qSeq rfl ?_
      refine hSeq ?_
      refine hReg (sq 0 (sq 1 sz)) (by kernel_rfl) ?_
      refine mvI rfl rfl rfl ?_
      refine gtr rfl rfl rfl rfl ?_
      refine rNil ?_
      refine qSeq rfl ?_
      refine hIfD rfl (fun c3 => ?_) (fun c3 => ?_)
      · -- c3T
        replace c3 : 1000000000 < (n * ((((Math.sizes z (Math.sets z nws p)))).getD i 0)) := c3
        refine hSeq ?_
        refine hReg (sq 0 (sq 1 sz)) (by kernel_rfl) ?_
        refine asI rfl rfl rfl ?_
        refine asI rfl rfl rfl ?_
        refine rNil ?_
        refine qSeq rfl ?_
        refine hRet ?_
        exact fun w hs => ⟨[.int .i64 0, .int .i64 3], ⟨rfl, ⟨rfl, trivial⟩⟩, ⟨by rw [show Math.countOf z ws vs p = (0, 3) from Math.count_no lws hgp.1 hgp.2 (by rw [← hw, Math.countL_step (by omega), if_pos (by assumption)])]; rfl, hs.upd⟩⟩
      · -- c3F
        replace c3 : ¬ (1000000000 < (n * ((((Math.sizes z (Math.sets z nws p)))).getD i 0))) := c3
        refine hSkip ?_
        refine qSeq rfl ?_
        refine hReg (sq 0 (sq 1 (sq 2 sz))) (by kernel_rfl) ?_
        refine mvI rfl rfl rfl ?_
        refine add rfl rfl rfl rfl (by omega) ?_
        refine asI rfl rfl rfl ?_
        refine rNil ?_
        rw [Math.countL_step (by omega), if_neg (by assumption)] at hw
        exact qNext rfl ((i + 1, (n * ((Math.sizes z (Math.sets z nws p)).getD i 0)))) (by dsimp only; omega) ⟨by dsimp only; omega, by dsimp only; omega, hw⟩ ⟨rfl, rfl, rfl, trivial⟩ (fun _ h => h.pick [0, 0])
    · -- c2F
      replace c2 : ¬ ((i : Int) < (ny1 : Int)) := c2
      refine hExit rfl ?_
      refine qSeq rfl ?_
      refine hSeq ?_
      refine hReg (sq 0 (sq 1 (sq 2 sz))) (by kernel_rfl) ?_
      refine mvI rfl rfl rfl ?_
      refine asI rfl rfl rfl ?_
      refine asI rfl rfl rfl ?_
      refine rNil ?_
      refine qSeq rfl ?_
      refine hRet ?_
      exact fun w hs => ⟨[.int .i64 n, .int .i64 0], ⟨rfl, ⟨rfl, trivial⟩⟩, ⟨by rw [show Math.countOf z ws vs p = (n, 0) from Math.count_yes lws hgp.1 hgp.2 (by rw [← hw, Math.countL_end (by omega)])]; rfl, hs.upd⟩⟩

end Go.Proofs.Ytbcopkhpgolkmaa
