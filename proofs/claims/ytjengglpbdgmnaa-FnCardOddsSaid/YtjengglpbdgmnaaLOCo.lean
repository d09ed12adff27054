/- Contracts of the odds of cards. Their conditions stand in each. -/
import Derived.Test.YtjengglpbdgmnaaEngCCo
import Derived.Test.YtjengglpbdgmnaaTreeCo
import Derived.Test.YtjengglpbdgmnaaGameCo
import Derived.Test.YtjengglpbdgmnaaSetsCo
import Derived.Test.YtjengglpbdgmnaaHighCo
import Derived.Test.YtjengglpbdgmnaaMirrCo
import Derived.Test.YtjengglpbdgmnaaMathCo
import Derived.Test.YtjengglpbdgmnaaCardCo
import Derived.Test.YtjengglpbdgmnaaL1Co
import Derived.Test.YtjengglpbdgmnaaL2Co
import Derived.Test.YtjengglpbdgmnaaL3Co
import Derived.Test.YtjengglpbdgmnaaL4Co
import Derived.Test.YtjengglpbdgmnaaL5Co
import Derived.Test.YtjengglpbdgmnaaLCCo
import Derived.Test.YtjengglpbdgmnaaLMCo
import Derived.Test.YtjengglpbdgmnaaLRCo
import Derived.Test.YtjengglpbdgmnaaRows
namespace Go.Proofs.Ytjengglpbdgmnaa
open Go Go.RowKit V
set_option linter.unusedVariables false
set_option linter.unusedSimpArgs false
set_option maxRecDepth 100000
theorem impl_CardOdds_c (az : Option Addr) (nz : Nat) (cz : Nat) (Hz : Nat → Hd) (z : List Nd) (aws : Option Addr) (nws : Nat) (cws : Nat) (Hws : Nat → Hd) (ws : List (List Int)) (avs : Option Addr) (nvs : Nat) (cvs : Nat) (Hvs : Nat → Hd) (vs : List (List Int)) (p : Int) (c : Int) (w : World) (rz : RdR ndK az nz Hz z w) (rws : RdR maK aws nws Hws ws w) (rvs : RdR maK avs nvs Hvs vs w) :
  Calls Try.prog 49 #[.agg #[.slice az nz cz, .slice aws nws cws, .slice avs nvs cvs], .int .i64 p, .int .i64 c] w (Ret fun v w' => v = .tuple #[.agg #[.int .i64 ((Math.cardAt z ws vs p c).1.1), .int .i64 ((Math.cardAt z ws vs p c).1.2)], .int .i64 ((Math.cardAt z ws vs p c).2)] ∧ Ext w w') := by
 have kz : Kn w none_ [] (RdR ndK az nz Hz z) := fun w' hs => rz.ext hs.upd
 have lz : z.length = nz := rz.1
 have mz : nz ≤ 9223372036854775807 := rz.2.1
 have kws : Kn w none_ [] (RdR maK aws nws Hws ws) := fun w' hs => rws.ext hs.upd
 have lws : ws.length = nws := rws.1
 have mws : nws ≤ 9223372036854775807 := rws.2.1
 have kvs : Kn w none_ [] (RdR maK avs nvs Hvs vs) := fun w' hs => rvs.ext hs.upd
 have lvs : vs.length = nvs := rvs.1
 have mvs : nvs ≤ 9223372036854775807 := rvs.2.1
 refine fn (M := none_) (rs := [.cell 6 65, .tmp 7]) Try.func49 rfl Try.ntmps49 rfl rfl (Sep.start _ _) ?_
 refine hSeq ?_
 refine hReg (sl 0 (sl 1 (sq 2 sz))) (by kernel_rfl) ?_
 refine box trv1 rfl rfl rfl rfl (fun bkb1 hbkb1 => ?_)
 refine alc Try.zeroValue65 rfl trv1 rfl rfl (fun bka2 hbka2 => ?_)
 refine asI rfl rfl rfl ?_
 refine rNil ?_
 refine qSeq rfl ?_
 refine hSeq ?_
 refine hSeq ?_
 refine hReg (sl 0 (sl 1 (sq 2 sz))) (by kernel_rfl) ?_
 refine ldAl Try.isAgg43 Try.sizeOf43 (cBs 1 rfl) trv rfl rfl rfl rfl ?_
 refine callP (v := .bool (Math.isGame z ws vs)) Try.call38 trv rfl rfl (fun w hs => impl_IsGame_c _ nz cz _ _ _ nws cws _ _ _ nvs cvs _ _ w (Kn.drop (k := 2) kz w hs) (Kn.drop (k := 2) kws w hs) (Kn.drop (k := 2) kvs w hs)) ?_
 refine not rfl rfl rfl ?_
 refine rNil ?_
 refine qSeq rfl ?_
 refine hIfN rfl (fun c1 => ?_) (fun c1 => ?_)
 ·
  replace c1 : (Math.isGame z ws vs) = false := c1
  refine hSeq ?_
  refine hReg (sq 0 (sl 1 (sq 2 sz))) (by kernel_rfl) ?_
  refine bld rfl rfl rfl (bld65) ?_
  refine stAl (vs := [.int .i64 0, .int .i64 0]) 0 rfl Try.sizeOf65 trv rfl rfl rfl rfl rfl (by simp [Value.oneCell']) rfl ?_
  refine asI rfl rfl rfl ?_
  refine rNil ?_
  refine qSeq rfl ?_
  refine hRet ?_
  exact fun w hs => ⟨[_, .int .i64 1], ⟨⟨_, rfl, run_load_agg Try.isAgg65 Try.sizeOf65 rfl (cBs 0 rfl w hs)⟩, ⟨rfl, trivial⟩⟩, ⟨by rw [Math.cardAt_1 c1]; rfl, hs.upd⟩⟩
 ·
  replace c1 : (Math.isGame z ws vs) = true := c1
  have hG := Math.isGame_ok c1
  rw [lws] at hG
  have hT := Math.isTree_ok hG.1
  have hvl := Math.mat_len hG.2.2.2.1
  have hm := hG.2.2.1
  have htl := Math.total_le hG.2.1.2 hm
  refine hSkip ?_
  refine qSeq rfl ?_
  refine hSeq ?_
  refine hSeq ?_
  refine hReg (sq 0 (sl 1 (sq 2 (sq 3 (sl 4 (sq 5 (sl 6 (sq 7 (sq 8 sz))))))))) (by kernel_rfl) ?_
  refine mvI rfl rfl rfl ?_
  refine callP (v := .bool (decide ((0 : Int) ≤ p ∧ p ≤ (1 : Int)))) Try.call96 trv rfl rfl (fun w hs => impl_within_c _ _ _ w ) ?_
  refine notD rfl rfl rfl ?_
  refine mvB rfl rfl rfl ?_
  refine rBoolD (d := 17) rfl (fun g2 => ?_) (fun g2 => ?_)
  ·
   replace g2 : ¬ ((0 : Int) ≤ p ∧ p ≤ (1 : Int)) := g2
   refine rSkipL trv rfl rfl ?_
   refine rSkipQ rfl rfl ?_
   refine rSkipL trv rfl rfl ?_
   refine rSkipQ rfl rfl ?_
   refine pickB rfl rfl rfl rfl ?_
   refine rNil ?_
   refine qSeq rfl ?_
   refine hIfT rfl ?_
   refine hSeq ?_
   refine hReg (sq 0 (sl 1 (sq 2 sz))) (by kernel_rfl) ?_
   refine bld rfl rfl rfl (bld65) ?_
   refine stAl (vs := [.int .i64 0, .int .i64 0]) 0 rfl Try.sizeOf65 trv rfl rfl rfl rfl rfl (by simp [Value.oneCell']) rfl ?_
   refine asI rfl rfl rfl ?_
   refine rNil ?_
   refine qSeq rfl ?_
   refine hRet ?_
   exact fun w hs => ⟨[_, .int .i64 2], ⟨⟨_, rfl, run_load_agg Try.isAgg65 Try.sizeOf65 rfl (cBs 0 rfl w hs)⟩, ⟨rfl, trivial⟩⟩, ⟨by rw [Math.cardAt_2 lws c1 (by omega)]; rfl, hs.upd⟩⟩
  ·
   replace g2 : ¬ (¬ ((0 : Int) ≤ p ∧ p ≤ (1 : Int))) := g2
   refine ldAl Try.isAgg43 Try.sizeOf43 (cBs 1 rfl) trv rfl rfl rfl rfl ?_
   refine mvI rfl rfl rfl ?_
   refine callP (v := .bool (decide (0 ≤ c ∧ c ≤ (nws : Int) - 1))) Try.call110 trv rfl rfl (fun w hs => impl_isKind_c _ nz cz _ _ _ nws cws _ _ _ nvs cvs _ _ _ w (Kn.drop (k := 2) kz w hs) (Kn.drop (k := 2) kws w hs) (Kn.drop (k := 2) kvs w hs)) ?_
   refine notD rfl rfl rfl ?_
   refine pickB rfl rfl rfl rfl ?_
   refine rNil ?_
   refine qSeq rfl ?_
   refine hIfD rfl (fun c3 => ?_) (fun c3 => ?_)
   ·
    replace c3 : ¬ (0 ≤ c ∧ c ≤ (nws : Int) - 1) := c3
    refine hSeq ?_
    refine hReg (sq 0 (sl 1 (sq 2 sz))) (by kernel_rfl) ?_
    refine bld rfl rfl rfl (bld65) ?_
    refine stAl (vs := [.int .i64 0, .int .i64 0]) 0 rfl Try.sizeOf65 trv rfl rfl rfl rfl rfl (by simp [Value.oneCell']) rfl ?_
    refine asI rfl rfl rfl ?_
    refine rNil ?_
    refine qSeq rfl ?_
    refine hRet ?_
    exact fun w hs => ⟨[_, .int .i64 2], ⟨⟨_, rfl, run_load_agg Try.isAgg65 Try.sizeOf65 rfl (cBs 0 rfl w hs)⟩, ⟨rfl, trivial⟩⟩, ⟨by rw [Math.cardAt_2 lws c1 (by omega)]; rfl, hs.upd⟩⟩
   ·
    replace c3 : ¬ (¬ (0 ≤ c ∧ c ≤ (nws : Int) - 1)) := c3
    refine hSkip ?_
    refine qSeq rfl ?_
    refine hSeq ?_
    refine hReg (sq 0 sz) (by kernel_rfl) ?_
    refine asI rfl rfl rfl ?_
    refine rNil ?_
    refine qSeq rfl ?_
    refine hSeq ?_
    refine hSeq ?_
    refine hReg (sq 0 (sl 1 (sq 2 (sq 3 sz)))) (by kernel_rfl) ?_
    refine fld fl43_1 rfl rfl rfl ?_
    refine ldl Try.isAgg41 (cB 1 rfl rfl) trv rfl rfl rfl ?_
    refine lenS Try.runUnderlying41 rfl rfl rfl ?_
    refine mvI rfl rfl rfl ?_
    refine rNil ?_
    refine qSeq rfl ?_
    refine hBlk ?_
    refine hLoop (α := Nat × Int) (fun x => x.1 ≤ nws ∧ x.2 = Math.cardSum ws p c.toNat x.1) (fun x => nws - x.1) (fun x => [blk bka2 65 [.int .i64 0, .int .i64 0], blk bkb1 43 [.slice az nz cz, .slice aws nws cws, .slice avs nvs cvs]]) (fun x => [(1, .int .i64 p), (2, .int .i64 c), (3, .pointer (some ⟨bkb1, 0, none⟩)), (6, .pointer (some ⟨bka2, 0, none⟩)), (8, .int .i64 x.2), (26, .int .i64 (nws : Int)), (27, .int .i64 (x.1 : Int))]) (0, 0) ⟨Nat.zero_le _, rfl⟩ (fun _ h => h.pick [0, 0]) ⟨rfl, rfl, rfl, rfl, rfl, rfl, rfl, trivial⟩ ?_
    rintro ⟨i, s⟩ τ1 ⟨hi, hs_⟩
    dsimp only at hi hs_
    refine hRe [(1, .int .i64 p), (2, .int .i64 c), (3, .pointer (some ⟨bkb1, 0, none⟩)), (6, .pointer (some ⟨bka2, 0, none⟩)), (8, .int .i64 s), (26, .int .i64 (nws : Int)), (27, .int .i64 (i : Int))] [blk bka2 65 [.int .i64 0, .int .i64 0], blk bkb1 43 [.slice az nz cz, .slice aws nws cws, .slice avs nvs cvs]] rfl rfl ?_
    refine hSeq ?_
    refine hReg (sq 0 sz) (by kernel_rfl) ?_
    refine lss rfl rfl rfl rfl ?_
    refine rNil ?_
    refine qSeq rfl ?_
    refine hSeq ?_
    refine hIfD rfl (fun c4 => ?_) (fun c4 => ?_)
    ·
     replace c4 : (i : Int) < (nws : Int) := c4
     have hsb := Math.cardSum_bd hm (show c.toNat < nws by omega) (p := p) i (by omega)
     have hfb := Math.cardF_bd hm (show c.toNat < nws by omega) (show i < nws by omega) (p := p)
     have hr1 := Math.row_len (Math.mat_row hm (show c.toNat < nws by omega))
     have hr2 := Math.row_len (Math.mat_row hm (show i < nws by omega))
     refine hSkip ?_
     refine qSeq rfl ?_
     refine hSeq ?_
     refine hBlk ?_
     refine hSeq ?_
     refine hReg (sq 0 (sq 1 sz)) (by kernel_rfl) ?_
     refine mvI rfl rfl rfl ?_
     refine asI rfl rfl rfl ?_
     refine rNil ?_
     refine qSeq rfl ?_
     refine hSeq ?_
     refine hReg (sq 0 (sq 1 sz)) (by kernel_rfl) ?_
     refine mvI rfl rfl rfl ?_
     refine eql rfl rfl rfl rfl ?_
     refine rNil ?_
     refine qSeq rfl ?_
     refine hIfD rfl (fun c5 => ?_) (fun c5 => ?_)
     ·
      replace c5 : p = 0 := c5
      have hcf : (ws.getD c.toNat []).getD i 0 = Math.cardF ws p c.toNat i := (if_pos c5).symm
      refine hReg (sq 0 (sq 1 (sl 2 (sq 3 (sq 4 (sl 5 (sq 6 (sq 7 (sl 8 (sq 9 (sq 10 sz))))))))))) (by kernel_rfl) ?_
      refine mvI rfl rfl rfl ?_
      refine fld fl43_1 rfl rfl rfl ?_
      refine ldl Try.isAgg41 (cB 1 rfl rfl) trv rfl rfl rfl ?_
      refine mvI rfl rfl rfl ?_
      refine ixRl (zn := (c).toNat) (ws.getD ((c).toNat) []) el41 (Kn.drop (k := 2) kws) rfl rfl rfl rfl (by omega) (by omega) rfl (nth [] (by omega)) ?_
      intro be1 oe1 e1
      refine ldl Try.isAgg28 (Kn.fld e1 0 rfl) trv rfl rfl rfl ?_
      refine mvI rfl rfl rfl ?_
      refine ixIl (zn := i) el28 (Kn.drop (k := 2) ((Kn.imp kws fun _ h => h.kidM (nth [] (by omega))))) rfl rfl rfl rfl (by omega) (by omega) rfl ?_
      intro ae2 e2
      refine ldl Try.isAgg2 (e2) trv rfl rfl rfl ?_
      refine add rfl rfl rfl rfl (by omega) ?_
      refine asI rfl rfl rfl ?_
      refine rNil ?_
      refine qSeq rfl ?_
      refine hReg (sq 0 (sq 1 sz)) (by kernel_rfl) ?_
      refine add rfl rfl rfl rfl (by omega) ?_
      refine mvI rfl rfl rfl ?_
      refine rNil ?_
      exact qNext rfl ((i + 1, (s + (((ws.getD ((c).toNat) [])).getD i 0)))) (by dsimp only; omega) ⟨by dsimp only; omega, by dsimp only; rw [Math.cardSum_s]; omega⟩ ⟨rfl, rfl, rfl, rfl, rfl, rfl, rfl, trivial⟩ (fun _ h => h.pick [0, 0])
     ·
      replace c5 : ¬ (p = 0) := c5
      have hcf : (ws.getD i []).getD c.toNat 0 = Math.cardF ws p c.toNat i := (if_neg c5).symm
      refine hReg (sq 0 (sq 1 (sl 2 (sq 3 (sq 4 (sl 5 (sq 6 (sq 7 (sl 8 (sq 9 (sq 10 sz))))))))))) (by kernel_rfl) ?_
      refine mvI rfl rfl rfl ?_
      refine fld fl43_1 rfl rfl rfl ?_
      refine ldl Try.isAgg41 (cB 1 rfl rfl) trv rfl rfl rfl ?_
      refine mvI rfl rfl rfl ?_
      refine ixRl (zn := i) (ws.getD i []) el41 (Kn.drop (k := 2) kws) rfl rfl rfl rfl (by omega) (by omega) rfl (nth [] (by omega)) ?_
      intro be3 oe3 e3
      refine ldl Try.isAgg28 (Kn.fld e3 0 rfl) trv rfl rfl rfl ?_
      refine mvI rfl rfl rfl ?_
      refine ixIl (zn := (c).toNat) el28 (Kn.drop (k := 2) ((Kn.imp kws fun _ h => h.kidM (nth [] (by omega))))) rfl rfl rfl rfl (by omega) (by omega) rfl ?_
      intro ae4 e4
      refine ldl Try.isAgg2 (e4) trv rfl rfl rfl ?_
      refine add rfl rfl rfl rfl (by omega) ?_
      refine asI rfl rfl rfl ?_
      refine rNil ?_
      refine qSeq rfl ?_
      refine hReg (sq 0 (sq 1 sz)) (by kernel_rfl) ?_
      refine add rfl rfl rfl rfl (by omega) ?_
      refine mvI rfl rfl rfl ?_
      refine rNil ?_
      exact qNext rfl ((i + 1, (s + ((ws.getD i []).getD ((c).toNat) 0)))) (by dsimp only; omega) ⟨by dsimp only; omega, by dsimp only; rw [Math.cardSum_s]; omega⟩ ⟨rfl, rfl, rfl, rfl, rfl, rfl, rfl, trivial⟩ (fun _ h => h.pick [0, 0])
    ·
     replace c4 : ¬ ((i : Int) < (nws : Int)) := c4
     have hsb := Math.cardSum_bd hm (show c.toNat < nws by omega) (p := p) i (by omega)
     refine hExit rfl ?_
     refine qSeq rfl ?_
     refine hSeq ?_
     refine hReg (sq 0 (sl 1 (sl 2 (sl 3 (sq 4 (sq 5 (sl 6 (sq 7 sz)))))))) (by kernel_rfl) ?_
     refine mvI rfl rfl rfl ?_
     refine ldAl Try.isAgg43 Try.sizeOf43 (cBs 1 rfl) trv rfl rfl rfl rfl ?_
     refine callP (v := .int .i64 (Math.total ws)) Try.call115 trv rfl rfl (fun w hs => impl_totalWeight_c _ nz cz _ _ _ nws cws _ _ _ nvs cvs _ _ w (Kn.drop (k := 2) kz w hs) (Kn.drop (k := 2) kws w hs) (Kn.drop (k := 2) kvs w hs) (by assumption) (by omega)) ?_
     refine callP (v := .tuple #[.agg #[.int .i64 ((Math.reduced s (Math.total ws)).1.1), .int .i64 ((Math.reduced s (Math.total ws)).1.2)], .int .i64 ((Math.reduced s (Math.total ws)).2)]) Try.call123 trv rfl rfl (fun w hs => impl_reduced_c _ _ w (by omega) (by omega) (by omega)) ?_
     refine ext rfl rfl rfl rfl ?_
     refine ext rfl rfl rfl rfl ?_
     refine stAl (vs := [.int .i64 ((Math.reduced s (Math.total ws)).1.1), .int .i64 ((Math.reduced s (Math.total ws)).1.2)]) 0 rfl Try.sizeOf65 trv rfl rfl rfl rfl rfl (by simp [Value.oneCell']) rfl ?_
     refine asI rfl rfl rfl ?_
     refine rNil ?_
     refine qSeq rfl ?_
     refine hRet ?_
     exact fun w hs => ⟨[_, .int .i64 ((Math.reduced s (Math.total ws)).2)], ⟨⟨_, rfl, run_load_agg Try.isAgg65 Try.sizeOf65 rfl (cBs 0 rfl w hs)⟩, ⟨rfl, trivial⟩⟩, ⟨by rw [Math.cardAt_0 (s := s) lws c1 (by omega) (by rw [hs_, show i = nws from by omega])]; rfl, hs.upd⟩⟩
theorem spec_CardOdds_c (az : Option Addr) (nz : Nat) (cz : Nat) (Hz : Nat → Hd) (z : List Nd) (aws : Option Addr) (nws : Nat) (cws : Nat) (Hws : Nat → Hd) (ws : List (List Int)) (avs : Option Addr) (nvs : Nat) (cvs : Nat) (Hvs : Nat → Hd) (vs : List (List Int)) (p : Int) (c : Int) (w : World) (rz : RdR ndK az nz Hz z w) (rws : RdR maK aws nws Hws ws w) (rvs : RdR maK avs nvs Hvs vs w) :
  Calls Try.prog 50 #[.agg #[.slice az nz cz, .slice aws nws cws, .slice avs nvs cvs], .int .i64 p, .int .i64 c] w (Ret fun v w' => v = .tuple #[.agg #[.int .i64 ((Math.cardAt z ws vs p c).1.1), .int .i64 ((Math.cardAt z ws vs p c).1.2)], .int .i64 ((Math.cardAt z ws vs p c).2)] ∧ Ext w w') := by
 have kz : Kn w none_ [] (RdR ndK az nz Hz z) := fun w' hs => rz.ext hs.upd
 have lz : z.length = nz := rz.1
 have mz : nz ≤ 9223372036854775807 := rz.2.1
 have kws : Kn w none_ [] (RdR maK aws nws Hws ws) := fun w' hs => rws.ext hs.upd
 have lws : ws.length = nws := rws.1
 have mws : nws ≤ 9223372036854775807 := rws.2.1
 have kvs : Kn w none_ [] (RdR maK avs nvs Hvs vs) := fun w' hs => rvs.ext hs.upd
 have lvs : vs.length = nvs := rvs.1
 have mvs : nvs ≤ 9223372036854775807 := rvs.2.1
 refine fn (M := none_) (rs := [.cell 6 65, .tmp 7]) Try.func50 rfl Try.ntmps50 rfl rfl (Sep.start _ _) ?_
 refine hSeq ?_
 refine hReg (sl 0 (sl 1 (sq 2 sz))) (by kernel_rfl) ?_
 refine box trv1 rfl rfl rfl rfl (fun bkb1 hbkb1 => ?_)
 refine alc Try.zeroValue65 rfl trv1 rfl rfl (fun bka2 hbka2 => ?_)
 refine asI rfl rfl rfl ?_
 refine rNil ?_
 refine qSeq rfl ?_
 refine hSeq ?_
 refine hSeq ?_
 refine hReg (sl 0 (sl 1 (sq 2 sz))) (by kernel_rfl) ?_
 refine ldAl Try.isAgg43 Try.sizeOf43 (cBs 1 rfl) trv rfl rfl rfl rfl ?_
 refine callP (v := .bool (Math.isGame z ws vs)) Try.call108 trv rfl rfl (fun w hs => spec_IsGame_c _ nz cz _ _ _ nws cws _ _ _ nvs cvs _ _ w (Kn.drop (k := 2) kz w hs) (Kn.drop (k := 2) kws w hs) (Kn.drop (k := 2) kvs w hs)) ?_
 refine not rfl rfl rfl ?_
 refine rNil ?_
 refine qSeq rfl ?_
 refine hIfN rfl (fun c1 => ?_) (fun c1 => ?_)
 ·
  replace c1 : (Math.isGame z ws vs) = false := c1
  refine hSeq ?_
  refine hReg (sq 0 (sl 1 (sq 2 sz))) (by kernel_rfl) ?_
  refine bld rfl rfl rfl (bld65) ?_
  refine stAl (vs := [.int .i64 0, .int .i64 0]) 0 rfl Try.sizeOf65 trv rfl rfl rfl rfl rfl (by simp [Value.oneCell']) rfl ?_
  refine asI rfl rfl rfl ?_
  refine rNil ?_
  refine qSeq rfl ?_
  refine hRet ?_
  exact fun w hs => ⟨[_, .int .i64 1], ⟨⟨_, rfl, run_load_agg Try.isAgg65 Try.sizeOf65 rfl (cBs 0 rfl w hs)⟩, ⟨rfl, trivial⟩⟩, ⟨by rw [Math.cardAt_1 c1]; rfl, hs.upd⟩⟩
 ·
  replace c1 : (Math.isGame z ws vs) = true := c1
  have hG := Math.isGame_ok c1
  rw [lws] at hG
  have hT := Math.isTree_ok hG.1
  have hvl := Math.mat_len hG.2.2.2.1
  have hm := hG.2.2.1
  have htl := Math.total_le hG.2.1.2 hm
  have hml : (Math.mirWs ws nws nws).length = nws := Math.mapR_len _ _
  have hm2 := Math.mir_mat hm
  have htm := Math.total_mir hm
  refine hSkip ?_
  refine qSeq rfl ?_
  refine hSeq ?_
  refine hSeq ?_
  refine hReg (sq 0 (sl 1 (sq 2 (sq 3 (sl 4 (sq 5 (sl 6 (sq 7 (sq 8 sz))))))))) (by kernel_rfl) ?_
  refine mvI rfl rfl rfl ?_
  refine callP (v := .bool (decide ((0 : Int) ≤ p ∧ p ≤ (1 : Int)))) Try.call97 trv rfl rfl (fun w hs => spec_l01In_c _ _ _ w ) ?_
  refine notD rfl rfl rfl ?_
  refine mvB rfl rfl rfl ?_
  refine rBoolD (d := 15) rfl (fun g2 => ?_) (fun g2 => ?_)
  ·
   replace g2 : ¬ ((0 : Int) ≤ p ∧ p ≤ (1 : Int)) := g2
   refine rSkipL trv rfl rfl ?_
   refine rSkipQ rfl rfl ?_
   refine rSkipL trv rfl rfl ?_
   refine rSkipQ rfl rfl ?_
   refine pickB rfl rfl rfl rfl ?_
   refine rNil ?_
   refine qSeq rfl ?_
   refine hIfT rfl ?_
   refine hSeq ?_
   refine hReg (sq 0 (sl 1 (sq 2 sz))) (by kernel_rfl) ?_
   refine bld rfl rfl rfl (bld65) ?_
   refine stAl (vs := [.int .i64 0, .int .i64 0]) 0 rfl Try.sizeOf65 trv rfl rfl rfl rfl rfl (by simp [Value.oneCell']) rfl ?_
   refine asI rfl rfl rfl ?_
   refine rNil ?_
   refine qSeq rfl ?_
   refine hRet ?_
   exact fun w hs => ⟨[_, .int .i64 2], ⟨⟨_, rfl, run_load_agg Try.isAgg65 Try.sizeOf65 rfl (cBs 0 rfl w hs)⟩, ⟨rfl, trivial⟩⟩, ⟨by rw [Math.cardAt_2 lws c1 (by omega)]; rfl, hs.upd⟩⟩
  ·
   replace g2 : ¬ (¬ ((0 : Int) ≤ p ∧ p ≤ (1 : Int))) := g2
   refine ldAl Try.isAgg43 Try.sizeOf43 (cBs 1 rfl) trv rfl rfl rfl rfl ?_
   refine mvI rfl rfl rfl ?_
   refine callP (v := .bool (decide (0 ≤ c ∧ c ≤ (nws : Int) - 1))) Try.call112 trv rfl rfl (fun w hs => spec_l21Card_c _ nz cz _ _ _ nws cws _ _ _ nvs cvs _ _ _ w (Kn.drop (k := 2) kz w hs) (Kn.drop (k := 2) kws w hs) (Kn.drop (k := 2) kvs w hs)) ?_
   refine notD rfl rfl rfl ?_
   refine pickB rfl rfl rfl rfl ?_
   refine rNil ?_
   refine qSeq rfl ?_
   refine hIfD rfl (fun c3 => ?_) (fun c3 => ?_)
   ·
    replace c3 : ¬ (0 ≤ c ∧ c ≤ (nws : Int) - 1) := c3
    refine hSeq ?_
    refine hReg (sq 0 (sl 1 (sq 2 sz))) (by kernel_rfl) ?_
    refine bld rfl rfl rfl (bld65) ?_
    refine stAl (vs := [.int .i64 0, .int .i64 0]) 0 rfl Try.sizeOf65 trv rfl rfl rfl rfl rfl (by simp [Value.oneCell']) rfl ?_
    refine asI rfl rfl rfl ?_
    refine rNil ?_
    refine qSeq rfl ?_
    refine hRet ?_
    exact fun w hs => ⟨[_, .int .i64 2], ⟨⟨_, rfl, run_load_agg Try.isAgg65 Try.sizeOf65 rfl (cBs 0 rfl w hs)⟩, ⟨rfl, trivial⟩⟩, ⟨by rw [Math.cardAt_2 lws c1 (by omega)]; rfl, hs.upd⟩⟩
   ·
    replace c3 : ¬ (¬ (0 ≤ c ∧ c ≤ (nws : Int) - 1)) := c3
    refine hSkip ?_
    refine qSeq rfl ?_
    refine hSeq ?_
    refine hSeq ?_
    refine hReg (sq 0 (sq 1 sz)) (by kernel_rfl) ?_
    refine mvI rfl rfl rfl ?_
    refine eql rfl rfl rfl rfl ?_
    refine rNil ?_
    refine qSeq rfl ?_
    refine hIfD rfl (fun c4 => ?_) (fun c4 => ?_)
    ·
     replace c4 : p = 1 := c4
     have hcn : c.toNat < nws := by omega
     have hb0 := Math.row_big (Math.mat_row hm hcn)
     have hb1 := Math.row_big (Math.mat_row hm2 hcn)
     have hr0 := Math.row_len (Math.mat_row hm hcn)
     have hr1 := Math.row_len (Math.mat_row hm2 hcn)
     have hsb := Math.cardSum_bd hm hcn (p := p) nws (Nat.le_refl _)
     have hcs := Math.card_sum1 (ws := ws) (p := p) hcn c4
     refine hReg (sl 0 (sl 1 (sl 2 sz))) (by kernel_rfl) ?_
     refine ldAl Try.isAgg43 Try.sizeOf43 (cBs 1 rfl) trv rfl rfl rfl rfl ?_
     refine callS Try.call109 trv1 rfl rfl (fun w hs => spec_l21Mirror_c _ nz cz _ _ _ nws cws _ _ _ nvs cvs _ _ w (Kn.drop (k := 2) kz w hs) (Kn.drop (k := 2) kws w hs) (Kn.drop (k := 2) kvs w hs) (by assumption)) ?_
     rintro ⟨ay1, ny1, cy1, Hy1, y1, ayw1, nyw1, cyw1, Hyw1, yw1, ayv1, nyv1, cyv1, Hyv1, yv1⟩ ⟨hr1a, hr1b, hr1c⟩
     dsimp only at hr1a hr1b hr1c
     subst y1
     subst yw1
     subst yv1
     refine rPieces (L' := [OwnR ndK 88 2 ay1 ny1 cy1 Hy1 (z.map Math.mirN), OwnR maK 28 2 ayw1 nyw1 cyw1 Hyw1 (Math.mirWs ws nws nws), OwnR maK 28 2 ayv1 nyv1 cyv1 Hyv1 (Math.mirVs vs nws nws), blk bka2 65 [.int .i64 0, .int .i64 0], blk bkb1 43 [.slice az nz cz, .slice aws nws cws, .slice avs nvs cvs]]) (fun _ h => h) ?_
     refine rKnow (fun w hs => (show OwnR ndK 88 2 ay1 ny1 cy1 Hy1 (z.map Math.mirN) w from hs.at_ 0 rfl).1) (fun lenn3 => ?_)
     refine rKnow (fun w hs => (show OwnR maK 28 2 ayw1 nyw1 cyw1 Hyw1 (Math.mirWs ws nws nws) w from hs.at_ 1 rfl).1) (fun lenn4 => ?_)
     refine rKnow (fun w hs => (show OwnR maK 28 2 ayv1 nyv1 cyv1 Hyv1 (Math.mirVs vs nws nws) w from hs.at_ 2 rfl).1) (fun lenn5 => ?_)
     refine stAl (vs := [.slice ay1 ny1 cy1, .slice ayw1 nyw1 cyw1, .slice ayv1 nyv1 cyv1]) 4 rfl Try.sizeOf43 trv rfl rfl rfl rfl rfl (by simp [Value.oneCell']) rfl ?_
     refine rNil ?_
     refine qSeq rfl ?_
     refine hSeq ?_
     refine hDraw (Ls := []) (by kernel_rfl) (sq 0 (sq 2 (.alt (sl 1 (sq 3 (.alt (sl 4 (.alt (sl 5 (sl 6 (sl 7 (sl 8 (sq 9 (sq 10 (sl 11 (sq 12 sz)))))))) (sl 6 (sl 5 (sl 7 (sl 8 (sq 9 (sq 10 (sl 11 (sq 12 sz)))))))))) (sl 6 (sl 4 (sl 5 (sl 7 (sl 8 (sq 9 (sq 10 (sl 11 (sq 12 sz)))))))))))) (sl 6 (sl 1 (sq 3 (sl 4 (sl 5 (sl 7 (sl 8 (sq 9 (sq 10 (sl 11 (sq 12 sz)))))))))))))) (by kernel_rfl) (.cons _ (.cons _ (.cons _ (.cons _ (.cons _ .slnil))))) ?_
     refine fld fl43_1 rfl rfl rfl ?_
     refine mvI rfl rfl rfl ?_
     refine rAlt ?_ ?_
     ·
      refine ldl Try.isAgg41 (cB 4 rfl rfl) (fun _ h => h.pick []) rfl rfl rfl ?_
      refine ixRl (zn := (c).toNat) ((Math.mirWs ws nws nws).getD ((c).toNat) []) el41 ((Kn.at_ 1 rfl).imp fun _ h => OwnR.rd h maK.ok) rfl rfl rfl rfl (by omega) (by omega) rfl (nth [] (by omega)) ?_
      intro be2 oe2 e2
      refine rAlt ?_ ?_
      ·
       refine ldl Try.isAgg28 (Kn.fld e2 0 rfl) (fun _ h => h.pick []) rfl rfl rfl ?_
       refine rAlt ?_ ?_
       ·
        refine callP (v := .int .i64 ((((Math.mirWs ws nws nws).getD ((c).toNat) [])).sum)) Try.call125 (fun _ h => h.pick []) rfl rfl (fun w hs => spec_l01Sum_c _ (((Math.mirWs ws nws nws).getD ((c).toNat) []).length) ((Hyw1 ((c).toNat)).2) _ w ((Kn.imp ((Kn.at_ (φ := OwnR maK 28 2 ayw1 nyw1 cyw1 Hyw1 (Math.mirWs ws nws nws)) 1 rfl).imp fun _ h => OwnR.rd h maK.ok) fun _ h => h.kidM (nth [] (by omega))) w hs) (by assumption) (by omega)) ?_
        refine ldAl Try.isAgg43 Try.sizeOf43 (cBs 4 rfl) (fun _ h => h.pick []) rfl rfl rfl rfl ?_
        refine callP (v := .int .i64 ((Math.total (Math.mirWs ws nws nws)))) Try.call126 (fun _ h => h.pick []) rfl rfl (fun w hs => spec_l21Total_c _ ny1 cy1 _ _ _ nyw1 cyw1 _ _ _ nyv1 cyv1 _ _ w (OwnR.rd (hs.at_ 0 rfl) ndK.ok) (OwnR.rd (hs.at_ 1 rfl) maK.ok) (OwnR.rd (hs.at_ 2 rfl) maK.ok) (by first | assumption | exact Math.mir_mat2 hm (by omega)) (by omega)) ?_
        refine callP (v := .tuple #[.agg #[.int .i64 ((Math.reduced ((((Math.mirWs ws nws nws).getD ((c).toNat) [])).sum) ((Math.total (Math.mirWs ws nws nws)))).1.1), .int .i64 ((Math.reduced ((((Math.mirWs ws nws nws).getD ((c).toNat) [])).sum) ((Math.total (Math.mirWs ws nws nws)))).1.2)], .int .i64 ((Math.reduced ((((Math.mirWs ws nws nws).getD ((c).toNat) [])).sum) ((Math.total (Math.mirWs ws nws nws)))).2)]) Try.call124 (fun _ h => h.pick []) rfl rfl (fun w hs => spec_l01Ratio_c _ _ w (by omega) (by omega) (by omega)) ?_
        refine ext rfl rfl rfl rfl ?_
        refine ext rfl rfl rfl rfl ?_
        refine stAl (vs := [.int .i64 ((Math.reduced ((((Math.mirWs ws nws nws).getD ((c).toNat) [])).sum) ((Math.total (Math.mirWs ws nws nws)))).1.1), .int .i64 ((Math.reduced ((((Math.mirWs ws nws nws).getD ((c).toNat) [])).sum) ((Math.total (Math.mirWs ws nws nws)))).1.2)]) 3 rfl Try.sizeOf65 (fun _ h => h.pick []) rfl rfl rfl rfl rfl (by simp [Value.oneCell']) rfl ?_
        refine asI rfl rfl rfl ?_
        refine rNil ?_
        refine qSeq rfl ?_
        refine hRet ?_
        exact fun w hs => ⟨[_, .int .i64 ((Math.reduced ((((Math.mirWs ws nws nws).getD ((c).toNat) [])).sum) ((Math.total (Math.mirWs ws nws nws)))).2)], ⟨⟨_, rfl, run_load_agg Try.isAgg65 Try.sizeOf65 rfl (cBs 3 rfl w hs)⟩, ⟨rfl, trivial⟩⟩, ⟨by rw [Math.cardAt_0 lws c1 (by omega) hcs, ← htm]; rfl, hs.upd⟩⟩
       ·
        refine ldAl Try.isAgg43 Try.sizeOf43 (cBs 4 rfl) (fun _ h => h.pick []) rfl rfl rfl rfl ?_
        refine callP (v := .int .i64 ((((Math.mirWs ws nws nws).getD ((c).toNat) [])).sum)) Try.call125 (fun _ h => h.pick []) rfl rfl (fun w hs => spec_l01Sum_c _ (((Math.mirWs ws nws nws).getD ((c).toNat) []).length) ((Hyw1 ((c).toNat)).2) _ w ((Kn.imp ((Kn.at_ (φ := OwnR maK 28 2 ayw1 nyw1 cyw1 Hyw1 (Math.mirWs ws nws nws)) 1 rfl).imp fun _ h => OwnR.rd h maK.ok) fun _ h => h.kidM (nth [] (by omega))) w hs) (by assumption) (by omega)) ?_
        refine callP (v := .int .i64 ((Math.total (Math.mirWs ws nws nws)))) Try.call126 (fun _ h => h.pick []) rfl rfl (fun w hs => spec_l21Total_c _ ny1 cy1 _ _ _ nyw1 cyw1 _ _ _ nyv1 cyv1 _ _ w (OwnR.rd (hs.at_ 0 rfl) ndK.ok) (OwnR.rd (hs.at_ 1 rfl) maK.ok) (OwnR.rd (hs.at_ 2 rfl) maK.ok) (by first | assumption | exact Math.mir_mat2 hm (by omega)) (by omega)) ?_
        refine callP (v := .tuple #[.agg #[.int .i64 ((Math.reduced ((((Math.mirWs ws nws nws).getD ((c).toNat) [])).sum) ((Math.total (Math.mirWs ws nws nws)))).1.1), .int .i64 ((Math.reduced ((((Math.mirWs ws nws nws).getD ((c).toNat) [])).sum) ((Math.total (Math.mirWs ws nws nws)))).1.2)], .int .i64 ((Math.reduced ((((Math.mirWs ws nws nws).getD ((c).toNat) [])).sum) ((Math.total (Math.mirWs ws nws nws)))).2)]) Try.call124 (fun _ h => h.pick []) rfl rfl (fun w hs => spec_l01Ratio_c _ _ w (by omega) (by omega) (by omega)) ?_
        refine ext rfl rfl rfl rfl ?_
        refine ext rfl rfl rfl rfl ?_
        refine stAl (vs := [.int .i64 ((Math.reduced ((((Math.mirWs ws nws nws).getD ((c).toNat) [])).sum) ((Math.total (Math.mirWs ws nws nws)))).1.1), .int .i64 ((Math.reduced ((((Math.mirWs ws nws nws).getD ((c).toNat) [])).sum) ((Math.total (Math.mirWs ws nws nws)))).1.2)]) 3 rfl Try.sizeOf65 (fun _ h => h.pick []) rfl rfl rfl rfl rfl (by simp [Value.oneCell']) rfl ?_
        refine asI rfl rfl rfl ?_
        refine rNil ?_
        refine qSeq rfl ?_
        refine hRet ?_
        exact fun w hs => ⟨[_, .int .i64 ((Math.reduced ((((Math.mirWs ws nws nws).getD ((c).toNat) [])).sum) ((Math.total (Math.mirWs ws nws nws)))).2)], ⟨⟨_, rfl, run_load_agg Try.isAgg65 Try.sizeOf65 rfl (cBs 3 rfl w hs)⟩, ⟨rfl, trivial⟩⟩, ⟨by rw [Math.cardAt_0 lws c1 (by omega) hcs, ← htm]; rfl, hs.upd⟩⟩
      ·
       refine ldAl Try.isAgg43 Try.sizeOf43 (cBs 4 rfl) (fun _ h => h.pick []) rfl rfl rfl rfl ?_
       refine ldl Try.isAgg28 (Kn.fld e2 0 rfl) (fun _ h => h.pick []) rfl rfl rfl ?_
       refine callP (v := .int .i64 ((((Math.mirWs ws nws nws).getD ((c).toNat) [])).sum)) Try.call125 (fun _ h => h.pick []) rfl rfl (fun w hs => spec_l01Sum_c _ (((Math.mirWs ws nws nws).getD ((c).toNat) []).length) ((Hyw1 ((c).toNat)).2) _ w ((Kn.imp ((Kn.at_ (φ := OwnR maK 28 2 ayw1 nyw1 cyw1 Hyw1 (Math.mirWs ws nws nws)) 1 rfl).imp fun _ h => OwnR.rd h maK.ok) fun _ h => h.kidM (nth [] (by omega))) w hs) (by assumption) (by omega)) ?_
       refine callP (v := .int .i64 ((Math.total (Math.mirWs ws nws nws)))) Try.call126 (fun _ h => h.pick []) rfl rfl (fun w hs => spec_l21Total_c _ ny1 cy1 _ _ _ nyw1 cyw1 _ _ _ nyv1 cyv1 _ _ w (OwnR.rd (hs.at_ 0 rfl) ndK.ok) (OwnR.rd (hs.at_ 1 rfl) maK.ok) (OwnR.rd (hs.at_ 2 rfl) maK.ok) (by first | assumption | exact Math.mir_mat2 hm (by omega)) (by omega)) ?_
       refine callP (v := .tuple #[.agg #[.int .i64 ((Math.reduced ((((Math.mirWs ws nws nws).getD ((c).toNat) [])).sum) ((Math.total (Math.mirWs ws nws nws)))).1.1), .int .i64 ((Math.reduced ((((Math.mirWs ws nws nws).getD ((c).toNat) [])).sum) ((Math.total (Math.mirWs ws nws nws)))).1.2)], .int .i64 ((Math.reduced ((((Math.mirWs ws nws nws).getD ((c).toNat) [])).sum) ((Math.total (Math.mirWs ws nws nws)))).2)]) Try.call124 (fun _ h => h.pick []) rfl rfl (fun w hs => spec_l01Ratio_c _ _ w (by omega) (by omega) (by omega)) ?_
       refine ext rfl rfl rfl rfl ?_
       refine ext rfl rfl rfl rfl ?_
       refine stAl (vs := [.int .i64 ((Math.reduced ((((Math.mirWs ws nws nws).getD ((c).toNat) [])).sum) ((Math.total (Math.mirWs ws nws nws)))).1.1), .int .i64 ((Math.reduced ((((Math.mirWs ws nws nws).getD ((c).toNat) [])).sum) ((Math.total (Math.mirWs ws nws nws)))).1.2)]) 3 rfl Try.sizeOf65 (fun _ h => h.pick []) rfl rfl rfl rfl rfl (by simp [Value.oneCell']) rfl ?_
       refine asI rfl rfl rfl ?_
       refine rNil ?_
       refine qSeq rfl ?_
       refine hRet ?_
       exact fun w hs => ⟨[_, .int .i64 ((Math.reduced ((((Math.mirWs ws nws nws).getD ((c).toNat) [])).sum) ((Math.total (Math.mirWs ws nws nws)))).2)], ⟨⟨_, rfl, run_load_agg Try.isAgg65 Try.sizeOf65 rfl (cBs 3 rfl w hs)⟩, ⟨rfl, trivial⟩⟩, ⟨by rw [Math.cardAt_0 lws c1 (by omega) hcs, ← htm]; rfl, hs.upd⟩⟩
     ·
      refine ldAl Try.isAgg43 Try.sizeOf43 (cBs 4 rfl) (fun _ h => h.pick []) rfl rfl rfl rfl ?_
      refine ldl Try.isAgg41 (cB 4 rfl rfl) (fun _ h => h.pick []) rfl rfl rfl ?_
      refine ixRl (zn := (c).toNat) ((Math.mirWs ws nws nws).getD ((c).toNat) []) el41 ((Kn.at_ 1 rfl).imp fun _ h => OwnR.rd h maK.ok) rfl rfl rfl rfl (by omega) (by omega) rfl (nth [] (by omega)) ?_
      intro be3 oe3 e3
      refine ldl Try.isAgg28 (Kn.fld e3 0 rfl) (fun _ h => h.pick []) rfl rfl rfl ?_
      refine callP (v := .int .i64 ((((Math.mirWs ws nws nws).getD ((c).toNat) [])).sum)) Try.call125 (fun _ h => h.pick []) rfl rfl (fun w hs => spec_l01Sum_c _ (((Math.mirWs ws nws nws).getD ((c).toNat) []).length) ((Hyw1 ((c).toNat)).2) _ w ((Kn.imp ((Kn.at_ (φ := OwnR maK 28 2 ayw1 nyw1 cyw1 Hyw1 (Math.mirWs ws nws nws)) 1 rfl).imp fun _ h => OwnR.rd h maK.ok) fun _ h => h.kidM (nth [] (by omega))) w hs) (by assumption) (by omega)) ?_
      refine callP (v := .int .i64 ((Math.total (Math.mirWs ws nws nws)))) Try.call126 (fun _ h => h.pick []) rfl rfl (fun w hs => spec_l21Total_c _ ny1 cy1 _ _ _ nyw1 cyw1 _ _ _ nyv1 cyv1 _ _ w (OwnR.rd (hs.at_ 0 rfl) ndK.ok) (OwnR.rd (hs.at_ 1 rfl) maK.ok) (OwnR.rd (hs.at_ 2 rfl) maK.ok) (by first | assumption | exact Math.mir_mat2 hm (by omega)) (by omega)) ?_
      refine callP (v := .tuple #[.agg #[.int .i64 ((Math.reduced ((((Math.mirWs ws nws nws).getD ((c).toNat) [])).sum) ((Math.total (Math.mirWs ws nws nws)))).1.1), .int .i64 ((Math.reduced ((((Math.mirWs ws nws nws).getD ((c).toNat) [])).sum) ((Math.total (Math.mirWs ws nws nws)))).1.2)], .int .i64 ((Math.reduced ((((Math.mirWs ws nws nws).getD ((c).toNat) [])).sum) ((Math.total (Math.mirWs ws nws nws)))).2)]) Try.call124 (fun _ h => h.pick []) rfl rfl (fun w hs => spec_l01Ratio_c _ _ w (by omega) (by omega) (by omega)) ?_
      refine ext rfl rfl rfl rfl ?_
      refine ext rfl rfl rfl rfl ?_
      refine stAl (vs := [.int .i64 ((Math.reduced ((((Math.mirWs ws nws nws).getD ((c).toNat) [])).sum) ((Math.total (Math.mirWs ws nws nws)))).1.1), .int .i64 ((Math.reduced ((((Math.mirWs ws nws nws).getD ((c).toNat) [])).sum) ((Math.total (Math.mirWs ws nws nws)))).1.2)]) 3 rfl Try.sizeOf65 (fun _ h => h.pick []) rfl rfl rfl rfl rfl (by simp [Value.oneCell']) rfl ?_
      refine asI rfl rfl rfl ?_
      refine rNil ?_
      refine qSeq rfl ?_
      refine hRet ?_
      exact fun w hs => ⟨[_, .int .i64 ((Math.reduced ((((Math.mirWs ws nws nws).getD ((c).toNat) [])).sum) ((Math.total (Math.mirWs ws nws nws)))).2)], ⟨⟨_, rfl, run_load_agg Try.isAgg65 Try.sizeOf65 rfl (cBs 3 rfl w hs)⟩, ⟨rfl, trivial⟩⟩, ⟨by rw [Math.cardAt_0 lws c1 (by omega) hcs, ← htm]; rfl, hs.upd⟩⟩
    ·
     replace c4 : ¬ (p = 1) := c4
     have hcn : c.toNat < nws := by omega
     have hb0 := Math.row_big (Math.mat_row hm hcn)
     have hb1 := Math.row_big (Math.mat_row hm2 hcn)
     have hr0 := Math.row_len (Math.mat_row hm hcn)
     have hr1 := Math.row_len (Math.mat_row hm2 hcn)
     have hsb := Math.cardSum_bd hm hcn (p := p) nws (Nat.le_refl _)
     have hcs := Math.card_sum0 (p := p) hm hcn (by omega)
     refine hSkip ?_
     refine qSeq rfl ?_
     refine hSeq ?_
     refine hDraw (Ls := []) (by kernel_rfl) (sq 0 (sq 2 (.alt (sl 1 (sq 3 (.alt (sl 4 (.alt (sl 5 (sl 6 (sl 7 (sl 8 (sq 9 (sq 10 (sl 11 (sq 12 sz)))))))) (sl 6 (sl 5 (sl 7 (sl 8 (sq 9 (sq 10 (sl 11 (sq 12 sz)))))))))) (sl 6 (sl 4 (sl 5 (sl 7 (sl 8 (sq 9 (sq 10 (sl 11 (sq 12 sz)))))))))))) (sl 6 (sl 1 (sq 3 (sl 4 (sl 5 (sl 7 (sl 8 (sq 9 (sq 10 (sl 11 (sq 12 sz)))))))))))))) (by kernel_rfl) (.cons _ (.cons _ .slnil)) ?_
     refine fld fl43_1 rfl rfl rfl ?_
     refine mvI rfl rfl rfl ?_
     refine rAlt ?_ ?_
     ·
      refine ldl Try.isAgg41 (cB 1 rfl rfl) (fun _ h => h.pick []) rfl rfl rfl ?_
      refine ixRl (zn := (c).toNat) (ws.getD ((c).toNat) []) el41 (Kn.drop (k := 2) kws) rfl rfl rfl rfl (by omega) (by omega) rfl (nth [] (by omega)) ?_
      intro be4 oe4 e4
      refine rAlt ?_ ?_
      ·
       refine ldl Try.isAgg28 (Kn.fld e4 0 rfl) (fun _ h => h.pick []) rfl rfl rfl ?_
       refine rAlt ?_ ?_
       ·
        refine callP (v := .int .i64 (((ws.getD ((c).toNat) [])).sum)) Try.call125 (fun _ h => h.pick []) rfl rfl (fun w hs => spec_l01Sum_c _ ((ws.getD ((c).toNat) []).length) ((Hws ((c).toNat)).2) _ w (Kn.drop (k := 2) ((Kn.imp kws fun _ h => h.kidM (nth [] (by omega)))) w hs) (by assumption) (by omega)) ?_
        refine ldAl Try.isAgg43 Try.sizeOf43 (cBs 1 rfl) (fun _ h => h.pick []) rfl rfl rfl rfl ?_
        refine callP (v := .int .i64 (Math.total ws)) Try.call126 (fun _ h => h.pick []) rfl rfl (fun w hs => spec_l21Total_c _ nz cz _ _ _ nws cws _ _ _ nvs cvs _ _ w (Kn.drop (k := 2) kz w hs) (Kn.drop (k := 2) kws w hs) (Kn.drop (k := 2) kvs w hs) (by first | assumption | exact Math.mir_mat2 hm (by omega)) (by omega)) ?_
        refine callP (v := .tuple #[.agg #[.int .i64 ((Math.reduced (((ws.getD ((c).toNat) [])).sum) (Math.total ws)).1.1), .int .i64 ((Math.reduced (((ws.getD ((c).toNat) [])).sum) (Math.total ws)).1.2)], .int .i64 ((Math.reduced (((ws.getD ((c).toNat) [])).sum) (Math.total ws)).2)]) Try.call124 (fun _ h => h.pick []) rfl rfl (fun w hs => spec_l01Ratio_c _ _ w (by omega) (by omega) (by omega)) ?_
        refine ext rfl rfl rfl rfl ?_
        refine ext rfl rfl rfl rfl ?_
        refine stAl (vs := [.int .i64 ((Math.reduced (((ws.getD ((c).toNat) [])).sum) (Math.total ws)).1.1), .int .i64 ((Math.reduced (((ws.getD ((c).toNat) [])).sum) (Math.total ws)).1.2)]) 0 rfl Try.sizeOf65 (fun _ h => h.pick []) rfl rfl rfl rfl rfl (by simp [Value.oneCell']) rfl ?_
        refine asI rfl rfl rfl ?_
        refine rNil ?_
        refine qSeq rfl ?_
        refine hRet ?_
        exact fun w hs => ⟨[_, .int .i64 ((Math.reduced (((ws.getD ((c).toNat) [])).sum) (Math.total ws)).2)], ⟨⟨_, rfl, run_load_agg Try.isAgg65 Try.sizeOf65 rfl (cBs 0 rfl w hs)⟩, ⟨rfl, trivial⟩⟩, ⟨by rw [Math.cardAt_0 lws c1 (by omega) (hcs)]; rfl, hs.upd⟩⟩
       ·
        refine ldAl Try.isAgg43 Try.sizeOf43 (cBs 1 rfl) (fun _ h => h.pick []) rfl rfl rfl rfl ?_
        refine callP (v := .int .i64 (((ws.getD ((c).toNat) [])).sum)) Try.call125 (fun _ h => h.pick []) rfl rfl (fun w hs => spec_l01Sum_c _ ((ws.getD ((c).toNat) []).length) ((Hws ((c).toNat)).2) _ w (Kn.drop (k := 2) ((Kn.imp kws fun _ h => h.kidM (nth [] (by omega)))) w hs) (by assumption) (by omega)) ?_
        refine callP (v := .int .i64 (Math.total ws)) Try.call126 (fun _ h => h.pick []) rfl rfl (fun w hs => spec_l21Total_c _ nz cz _ _ _ nws cws _ _ _ nvs cvs _ _ w (Kn.drop (k := 2) kz w hs) (Kn.drop (k := 2) kws w hs) (Kn.drop (k := 2) kvs w hs) (by first | assumption | exact Math.mir_mat2 hm (by omega)) (by omega)) ?_
        refine callP (v := .tuple #[.agg #[.int .i64 ((Math.reduced (((ws.getD ((c).toNat) [])).sum) (Math.total ws)).1.1), .int .i64 ((Math.reduced (((ws.getD ((c).toNat) [])).sum) (Math.total ws)).1.2)], .int .i64 ((Math.reduced (((ws.getD ((c).toNat) [])).sum) (Math.total ws)).2)]) Try.call124 (fun _ h => h.pick []) rfl rfl (fun w hs => spec_l01Ratio_c _ _ w (by omega) (by omega) (by omega)) ?_
        refine ext rfl rfl rfl rfl ?_
        refine ext rfl rfl rfl rfl ?_
        refine stAl (vs := [.int .i64 ((Math.reduced (((ws.getD ((c).toNat) [])).sum) (Math.total ws)).1.1), .int .i64 ((Math.reduced (((ws.getD ((c).toNat) [])).sum) (Math.total ws)).1.2)]) 0 rfl Try.sizeOf65 (fun _ h => h.pick []) rfl rfl rfl rfl rfl (by simp [Value.oneCell']) rfl ?_
        refine asI rfl rfl rfl ?_
        refine rNil ?_
        refine qSeq rfl ?_
        refine hRet ?_
        exact fun w hs => ⟨[_, .int .i64 ((Math.reduced (((ws.getD ((c).toNat) [])).sum) (Math.total ws)).2)], ⟨⟨_, rfl, run_load_agg Try.isAgg65 Try.sizeOf65 rfl (cBs 0 rfl w hs)⟩, ⟨rfl, trivial⟩⟩, ⟨by rw [Math.cardAt_0 lws c1 (by omega) (hcs)]; rfl, hs.upd⟩⟩
      ·
       refine ldAl Try.isAgg43 Try.sizeOf43 (cBs 1 rfl) (fun _ h => h.pick []) rfl rfl rfl rfl ?_
       refine ldl Try.isAgg28 (Kn.fld e4 0 rfl) (fun _ h => h.pick []) rfl rfl rfl ?_
       refine callP (v := .int .i64 (((ws.getD ((c).toNat) [])).sum)) Try.call125 (fun _ h => h.pick []) rfl rfl (fun w hs => spec_l01Sum_c _ ((ws.getD ((c).toNat) []).length) ((Hws ((c).toNat)).2) _ w (Kn.drop (k := 2) ((Kn.imp kws fun _ h => h.kidM (nth [] (by omega)))) w hs) (by assumption) (by omega)) ?_
       refine callP (v := .int .i64 (Math.total ws)) Try.call126 (fun _ h => h.pick []) rfl rfl (fun w hs => spec_l21Total_c _ nz cz _ _ _ nws cws _ _ _ nvs cvs _ _ w (Kn.drop (k := 2) kz w hs) (Kn.drop (k := 2) kws w hs) (Kn.drop (k := 2) kvs w hs) (by first | assumption | exact Math.mir_mat2 hm (by omega)) (by omega)) ?_
       refine callP (v := .tuple #[.agg #[.int .i64 ((Math.reduced (((ws.getD ((c).toNat) [])).sum) (Math.total ws)).1.1), .int .i64 ((Math.reduced (((ws.getD ((c).toNat) [])).sum) (Math.total ws)).1.2)], .int .i64 ((Math.reduced (((ws.getD ((c).toNat) [])).sum) (Math.total ws)).2)]) Try.call124 (fun _ h => h.pick []) rfl rfl (fun w hs => spec_l01Ratio_c _ _ w (by omega) (by omega) (by omega)) ?_
       refine ext rfl rfl rfl rfl ?_
       refine ext rfl rfl rfl rfl ?_
       refine stAl (vs := [.int .i64 ((Math.reduced (((ws.getD ((c).toNat) [])).sum) (Math.total ws)).1.1), .int .i64 ((Math.reduced (((ws.getD ((c).toNat) [])).sum) (Math.total ws)).1.2)]) 0 rfl Try.sizeOf65 (fun _ h => h.pick []) rfl rfl rfl rfl rfl (by simp [Value.oneCell']) rfl ?_
       refine asI rfl rfl rfl ?_
       refine rNil ?_
       refine qSeq rfl ?_
       refine hRet ?_
       exact fun w hs => ⟨[_, .int .i64 ((Math.reduced (((ws.getD ((c).toNat) [])).sum) (Math.total ws)).2)], ⟨⟨_, rfl, run_load_agg Try.isAgg65 Try.sizeOf65 rfl (cBs 0 rfl w hs)⟩, ⟨rfl, trivial⟩⟩, ⟨by rw [Math.cardAt_0 lws c1 (by omega) (hcs)]; rfl, hs.upd⟩⟩
     ·
      refine ldAl Try.isAgg43 Try.sizeOf43 (cBs 1 rfl) (fun _ h => h.pick []) rfl rfl rfl rfl ?_
      refine ldl Try.isAgg41 (cB 1 rfl rfl) (fun _ h => h.pick []) rfl rfl rfl ?_
      refine ixRl (zn := (c).toNat) (ws.getD ((c).toNat) []) el41 (Kn.drop (k := 2) kws) rfl rfl rfl rfl (by omega) (by omega) rfl (nth [] (by omega)) ?_
      intro be5 oe5 e5
      refine ldl Try.isAgg28 (Kn.fld e5 0 rfl) (fun _ h => h.pick []) rfl rfl rfl ?_
      refine callP (v := .int .i64 (((ws.getD ((c).toNat) [])).sum)) Try.call125 (fun _ h => h.pick []) rfl rfl (fun w hs => spec_l01Sum_c _ ((ws.getD ((c).toNat) []).length) ((Hws ((c).toNat)).2) _ w (Kn.drop (k := 2) ((Kn.imp kws fun _ h => h.kidM (nth [] (by omega)))) w hs) (by assumption) (by omega)) ?_
      refine callP (v := .int .i64 (Math.total ws)) Try.call126 (fun _ h => h.pick []) rfl rfl (fun w hs => spec_l21Total_c _ nz cz _ _ _ nws cws _ _ _ nvs cvs _ _ w (Kn.drop (k := 2) kz w hs) (Kn.drop (k := 2) kws w hs) (Kn.drop (k := 2) kvs w hs) (by first | assumption | exact Math.mir_mat2 hm (by omega)) (by omega)) ?_
      refine callP (v := .tuple #[.agg #[.int .i64 ((Math.reduced (((ws.getD ((c).toNat) [])).sum) (Math.total ws)).1.1), .int .i64 ((Math.reduced (((ws.getD ((c).toNat) [])).sum) (Math.total ws)).1.2)], .int .i64 ((Math.reduced (((ws.getD ((c).toNat) [])).sum) (Math.total ws)).2)]) Try.call124 (fun _ h => h.pick []) rfl rfl (fun w hs => spec_l01Ratio_c _ _ w (by omega) (by omega) (by omega)) ?_
      refine ext rfl rfl rfl rfl ?_
      refine ext rfl rfl rfl rfl ?_
      refine stAl (vs := [.int .i64 ((Math.reduced (((ws.getD ((c).toNat) [])).sum) (Math.total ws)).1.1), .int .i64 ((Math.reduced (((ws.getD ((c).toNat) [])).sum) (Math.total ws)).1.2)]) 0 rfl Try.sizeOf65 (fun _ h => h.pick []) rfl rfl rfl rfl rfl (by simp [Value.oneCell']) rfl ?_
      refine asI rfl rfl rfl ?_
      refine rNil ?_
      refine qSeq rfl ?_
      refine hRet ?_
      exact fun w hs => ⟨[_, .int .i64 ((Math.reduced (((ws.getD ((c).toNat) [])).sum) (Math.total ws)).2)], ⟨⟨_, rfl, run_load_agg Try.isAgg65 Try.sizeOf65 rfl (cBs 0 rfl w hs)⟩, ⟨rfl, trivial⟩⟩, ⟨by rw [Math.cardAt_0 lws c1 (by omega) (hcs)]; rfl, hs.upd⟩⟩
end Go.Proofs.Ytjengglpbdgmnaa
