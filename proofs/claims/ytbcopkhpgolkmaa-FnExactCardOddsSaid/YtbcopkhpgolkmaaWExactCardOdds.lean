/- The law FnExactCardOdds returns true for all arguments. No condition. -/
import Derived.Test.YtbcopkhpgolkmaaEngC
import Derived.Test.YtbcopkhpgolkmaaFrame
import Derived.Test.YtbcopkhpgolkmaaFrm
import Derived.Test.YtbcopkhpgolkmaaTree
import Derived.Test.YtbcopkhpgolkmaaGame
import Derived.Test.YtbcopkhpgolkmaaL1
import Derived.Test.YtbcopkhpgolkmaaL2
import Derived.Test.YtbcopkhpgolkmaaL2m
import Derived.Test.YtbcopkhpgolkmaaL3
import Derived.Test.YtbcopkhpgolkmaaL4
import Derived.Test.YtbcopkhpgolkmaaSets
import Derived.Test.YtbcopkhpgolkmaaL5
import Derived.Test.YtbcopkhpgolkmaaL6
import Derived.Test.YtbcopkhpgolkmaaHigh
import Derived.Test.YtbcopkhpgolkmaaMirr
import Derived.Test.YtbcopkhpgolkmaaMath
import Derived.Test.YtbcopkhpgolkmaaCard
import Derived.Test.YtbcopkhpgolkmaaLC
import Derived.Test.YtbcopkhpgolkmaaLM
import Derived.Test.YtbcopkhpgolkmaaLR
import Derived.Test.YtbcopkhpgolkmaaLO
import Derived.Test.YtbcopkhpgolkmaaOpn
import Derived.Test.YtbcopkhpgolkmaaRows
namespace Go.Proofs.Ytbcopkhpgolkmaa
open Go Go.RowKit V Go.ChangeShapes Go.WideShapes Go.ChangeAt
set_option linter.unusedVariables false
set_option linter.unusedSimpArgs false
set_option maxRecDepth 100000



theorem laws_FnExactCardOdds_c (az : Option Addr) (nz : Nat) (cz : Nat) (Hz : Nat → Hd) (z : List Nd) (aws : Option Addr) (nws : Nat) (cws : Nat) (Hws : Nat → Hd) (ws : List (List Int)) (avs : Option Addr) (nvs : Nat) (cvs : Nat) (Hvs : Nat → Hd) (vs : List (List Int)) (p : Int) (c : Int) (w : World) (rz : RdR ndK az nz Hz z w) (rws : RdR maK aws nws Hws ws w) (rvs : RdR maK avs nvs Hvs vs w) :
    Calls Try.prog 6 #[.agg #[.slice az nz cz, .slice aws nws cws, .slice avs nvs cvs], .int .i64 p, .int .i64 c] w (Ret fun v w' => v = .bool true ∧ Ext w w') := by
  have kz : Kn w none_ [] (RdR ndK az nz Hz z) := fun w' hs => rz.ext hs.upd
  have lz : z.length = nz := rz.1
  have mz : nz ≤ 9223372036854775807 := rz.2.1
  have kws : Kn w none_ [] (RdR maK aws nws Hws ws) := fun w' hs => rws.ext hs.upd
  have lws : ws.length = nws := rws.1
  have mws : nws ≤ 9223372036854775807 := rws.2.1
  have kvs : Kn w none_ [] (RdR maK avs nvs Hvs vs) := fun w' hs => rvs.ext hs.upd
  have lvs : vs.length = nvs := rvs.1
  have mvs : nvs ≤ 9223372036854775807 := rvs.2.1
  refine fn (M := none_) (rs := [.tmp 6]) Try.func6 rfl Try.ntmps6 rfl rfl (Sep.start _ _) ?_
  refine hSeq ?_
  refine hReg (sl 0 (sq 1 sz)) (by kernel_rfl) ?_
  refine box trv1 rfl rfl rfl rfl (fun bkb1 hbkb1 => ?_)
  refine asB rfl rfl rfl ?_
  refine rNil ?_
  refine qSeq rfl ?_
  refine hSeq ?_
  refine hReg (sq 0 sz) (by kernel_rfl) ?_
  refine asI rfl rfl rfl ?_
  refine rNil ?_
  refine qSeq rfl ?_
  refine hSeq ?_
  refine hReg (sl 0 (sq 1 (sl 2 (sq 3 sz)))) (by kernel_rfl) ?_
  refine ldAl Try.isAgg27 Try.sizeOf27 (cBs 0 rfl) trv rfl rfl rfl rfl ?_
  refine mvI rfl rfl rfl ?_
  refine callP (v := .int .i64 ((Math.cut (Math.cut (Math.cut (1048576 : Int) (Math.szK Math.chl z : Int)) (Math.szK Math.rwl ws : Int)) (Math.szK Math.rwl vs : Int)))) Try.call15 trv rfl rfl (fun w hs => laws_szGame_c _ nz cz _ _ _ nws cws _ _ _ nvs cvs _ _ _ w (Kn.drop (k := 1) kz w hs) (Kn.drop (k := 1) kws w hs) (Kn.drop (k := 1) kvs w hs) (by omega)) ?_
  refine asI rfl rfl rfl ?_
  refine rNil ?_
  refine qSeq rfl ?_
  refine hSeq ?_
  refine hSeq ?_
  refine hReg (sq 0 (sq 1 sz)) (by kernel_rfl) ?_
  refine mvI rfl rfl rfl ?_
  refine lss rfl rfl rfl rfl ?_
  refine rNil ?_
  refine qSeq rfl ?_
  refine hIfD rfl (fun c1 => ?_) (fun c1 => ?_)
  · -- c1T
    replace c1 : (Math.cut (Math.cut (Math.cut (1048576 : Int) (Math.szK Math.chl z : Int)) (Math.szK Math.rwl ws : Int)) (Math.szK Math.rwl vs : Int)) < 0 := c1
    refine hSeq ?_
    refine hReg (sq 0 sz) (by kernel_rfl) ?_
    refine asB rfl rfl rfl ?_
    refine rNil ?_
    refine qSeq rfl ?_
    refine hRet ?_
    exact fun w hs => ⟨[.bool true], ⟨rfl, trivial⟩, ⟨by first | rfl | exact bD (by omega) | exact bT (by omega) | exact bF (by omega) | exact vI (by omega), hs.upd⟩⟩
  · -- c1F
    replace c1 : ¬ ((Math.cut (Math.cut (Math.cut (1048576 : Int) (Math.szK Math.chl z : Int)) (Math.szK Math.rwl ws : Int)) (Math.szK Math.rwl vs : Int)) < 0) := c1
    obtain ⟨hb, hbw, hbv⟩ := Math.cut3_pos (l := 1048576) (by omega) c1
    have hble := Math.cut3_le (l := 1048576) c1 (by omega)
    refine hSkip ?_
    refine qSeq rfl ?_
    refine hSeq ?_
    refine hReg (sl 0 (sl 1 (sq 2 (sq 3 (sl 4 (sq 5 (sq 6 (sq 7 (sl 8 (sl 9 (sq 10 sz))))))))))) (by kernel_rfl) ?_
    refine ldAl Try.isAgg27 Try.sizeOf27 (cBs 0 rfl) trv rfl rfl rfl rfl ?_
    refine callS Try.call17 trv1 rfl rfl (fun w hs => laws_toGame_c _ nz cz _ _ _ nws cws _ _ _ nvs cvs _ _ w (Kn.drop (k := 1) kz w hs) (Kn.drop (k := 1) kws w hs) (Kn.drop (k := 1) kvs w hs) (by first | assumption | omega) (by first | assumption | omega) (by first | assumption | omega)) ?_
    rintro ⟨ay1, ny1, cy1, Hy1, y1, ayw1, nyw1, cyw1, Hyw1, yw1, ayv1, nyv1, cyv1, Hyv1, yv1⟩ ⟨hr1a, hr1b, hr1c⟩
    dsimp only at hr1a hr1b hr1c
    subst y1
    subst yw1
    subst yv1
    refine rKnow (fun w hs => (show OwnR ndK 84 2 ay1 ny1 cy1 Hy1 z w from hs.at_ 0 rfl).1) (fun lenn2 => ?_)
    refine rKnow (fun w hs => (show OwnR maK 82 2 ayw1 nyw1 cyw1 Hyw1 ws w from hs.at_ 1 rfl).1) (fun lenn3 => ?_)
    refine rKnow (fun w hs => (show OwnR maK 82 2 ayv1 nyv1 cyv1 Hyv1 vs w from hs.at_ 2 rfl).1) (fun lenn4 => ?_)
    refine mvI rfl rfl rfl ?_
    refine mvI rfl rfl rfl ?_
    refine callP (v := .tuple #[.agg #[.int .i64 ((Math.cardAt z ws vs p c).1.1), .int .i64 ((Math.cardAt z ws vs p c).1.2)], .int .i64 ((Math.cardAt z ws vs p c).2)]) Try.call27 trv rfl rfl (fun w hs => spec_CardOdds_c _ ny1 cy1 _ _ _ nyw1 cyw1 _ _ _ nyv1 cyv1 _ _ _ _ w (OwnR.rd (hs.at_ 0 rfl) ndK.ok) (OwnR.rd (hs.at_ 1 rfl) maK.ok) (OwnR.rd (hs.at_ 2 rfl) maK.ok)) ?_
    refine mv rfl rfl rfl ?_
    refine ext rfl rfl rfl rfl ?_
    refine ext rfl rfl rfl rfl ?_
    refine alc Try.zeroValue50 rfl trv1 rfl rfl (fun bka5 hbka5 => ?_)
    refine stAl (vs := [.int .i64 ((Math.cardAt z ws vs p c).1.1), .int .i64 ((Math.cardAt z ws vs p c).1.2)]) 0 rfl Try.sizeOf50 trv rfl rfl rfl rfl rfl (by simp [Value.oneCell']) rfl ?_
    refine asI rfl rfl rfl ?_
    refine rNil ?_
    refine qSeq rfl ?_
    refine hSeq ?_
    refine hReg (sl 0 (sl 1 (sl 2 (sl 3 sz)))) (by kernel_rfl) ?_
    refine ldAl Try.isAgg27 Try.sizeOf27 (cBs 4 rfl) trv rfl rfl rfl rfl ?_
    refine callS Try.call17 trv1 rfl rfl (fun w hs => laws_toGame_c _ nz cz _ _ _ nws cws _ _ _ nvs cvs _ _ w (Kn.drop (k := 5) kz w hs) (Kn.drop (k := 5) kws w hs) (Kn.drop (k := 5) kvs w hs) (by first | assumption | omega) (by first | assumption | omega) (by first | assumption | omega)) ?_
    rintro ⟨ay2, ny2, cy2, Hy2, y2, ayw2, nyw2, cyw2, Hyw2, yw2, ayv2, nyv2, cyv2, Hyv2, yv2⟩ ⟨hr2a, hr2b, hr2c⟩
    dsimp only at hr2a hr2b hr2c
    subst y2
    subst yw2
    subst yv2
    refine rKnow (fun w hs => (show OwnR ndK 84 2 ay2 ny2 cy2 Hy2 z w from hs.at_ 0 rfl).1) (fun lenn6 => ?_)
    refine rKnow (fun w hs => (show OwnR maK 82 2 ayw2 nyw2 cyw2 Hyw2 ws w from hs.at_ 1 rfl).1) (fun lenn7 => ?_)
    refine rKnow (fun w hs => (show OwnR maK 82 2 ayv2 nyv2 cyv2 Hyv2 vs w from hs.at_ 2 rfl).1) (fun lenn8 => ?_)
    refine alc Try.zeroValue35 rfl trv1 rfl rfl (fun bka9 hbka9 => ?_)
    refine stAl (vs := [.slice ay2 ny2 cy2, .slice ayw2 nyw2 cyw2, .slice ayv2 nyv2 cyv2]) 0 rfl Try.sizeOf35 trv rfl rfl rfl rfl rfl (by simp [Value.oneCell']) rfl ?_
    refine rNil ?_
    refine qSeq rfl ?_
    refine hSeq ?_
    refine hReg (sl 0 (sq 1 (sq 2 (sl 3 (sq 4 (sq 5 (sq 6 (sl 7 (sl 8 (sq 9 sz)))))))))) (by kernel_rfl) ?_
    refine ldAl Try.isAgg35 Try.sizeOf35 (cBs 0 rfl) trv rfl rfl rfl rfl ?_
    refine mvI rfl rfl rfl ?_
    refine mvI rfl rfl rfl ?_
    refine callP (v := .tuple #[.agg #[.int .i64 ((Math.cardAt z ws vs p c).1.1), .int .i64 ((Math.cardAt z ws vs p c).1.2)], .int .i64 ((Math.cardAt z ws vs p c).2)]) Try.call28 trv rfl rfl (fun w hs => impl_CardOdds_c _ ny2 cy2 _ _ _ nyw2 cyw2 _ _ _ nyv2 cyv2 _ _ _ _ w (OwnR.rd (hs.at_ 1 rfl) ndK.ok) (OwnR.rd (hs.at_ 2 rfl) maK.ok) (OwnR.rd (hs.at_ 3 rfl) maK.ok)) ?_
    refine mv rfl rfl rfl ?_
    refine ext rfl rfl rfl rfl ?_
    refine ext rfl rfl rfl rfl ?_
    refine alc Try.zeroValue50 rfl trv1 rfl rfl (fun bka10 hbka10 => ?_)
    refine stAl (vs := [.int .i64 ((Math.cardAt z ws vs p c).1.1), .int .i64 ((Math.cardAt z ws vs p c).1.2)]) 0 rfl Try.sizeOf50 trv rfl rfl rfl rfl rfl (by simp [Value.oneCell']) rfl ?_
    refine asI rfl rfl rfl ?_
    refine rNil ?_
    refine qSeq rfl ?_
    refine hSeq ?_
    refine hSeq ?_
    refine hReg (sl 0 (sl 1 (sl 2 (sq 3 (sq 4 (sq 5 (sq 6 (sq 7 (sq 8 sz))))))))) (by kernel_rfl) ?_
    refine ldAl Try.isAgg50 Try.sizeOf50 (cBs 0 rfl) trv rfl rfl rfl rfl ?_
    refine ldAl Try.isAgg50 Try.sizeOf50 (cBs 5 rfl) trv rfl rfl rfl rfl ?_
    refine callP (v := .bool true) Try.call29 trv rfl rfl (fun w hs => laws_eqRatio_c _ _ _ _ w (by exact ⟨rfl, rfl⟩)) ?_
    refine not rfl rfl rfl ?_
    refine mvB rfl rfl rfl ?_
    refine mvI rfl rfl rfl ?_
    refine mvI rfl rfl rfl ?_
    refine neq rfl rfl rfl rfl ?_
    refine pickB rfl rfl rfl rfl ?_
    refine rNil ?_
    refine qSeq rfl ?_
    refine hIfD rfl (fun c2 => ?_) (fun c2 => ?_)
    · -- c2T
      replace c2 : (Math.cardAt z ws vs p c).2 ≠ (Math.cardAt z ws vs p c).2 := c2
      exact absurd rfl c2
    · -- c2F
      replace c2 : ¬ ((Math.cardAt z ws vs p c).2 ≠ (Math.cardAt z ws vs p c).2) := c2
      refine hSkip ?_
      refine qSeq rfl ?_
      refine hSeq ?_
      refine hSeq ?_
      refine hDraw (Ls := [blk bka9 35 [.slice ay2 ny2 cy2, .slice ayw2 nyw2 cyw2, .slice ayv2 nyv2 cyv2], blk bkb1 27 [.slice az nz cz, .slice aws nws cws, .slice avs nvs cvs]]) (by kernel_rfl) (sq 0 (sq 1 (sl 2 (sl 3 (sq 4 sz))))) (by kernel_rfl) (.cons _ (.cons_cons _ (.cons _ (.cons _ (.cons _ (.cons _ (.cons _ (.cons _ (.cons _ (.cons_cons _ .slnil)))))))))) ?_
      refine ldAq Try.isAgg35 Try.sizeOf35 (cBs 0 rfl) rfl rfl rfl rfl ?_
      refine ldAq Try.isAgg27 Try.sizeOf27 (cBs 1 rfl) rfl rfl rfl rfl ?_
      refine callS Try.call17 (by exact (fun _ _ h => h.pick [4, 11])) rfl rfl (fun w hs => laws_toGame_c _ nz cz _ _ _ nws cws _ _ _ nvs cvs _ _ w (Kn.drop (k := 10) kz w hs) (Kn.drop (k := 10) kws w hs) (Kn.drop (k := 10) kvs w hs) (by first | assumption | omega) (by first | assumption | omega) (by first | assumption | omega)) ?_
      rintro ⟨ay3, ny3, cy3, Hy3, y3, ayw3, nyw3, cyw3, Hyw3, yw3, ayv3, nyv3, cyv3, Hyv3, yv3⟩ ⟨hr3a, hr3b, hr3c⟩
      dsimp only at hr3a hr3b hr3c
      subst y3
      subst yw3
      subst yv3
      refine rKnow (fun w hs => (show OwnR ndK 84 2 ay3 ny3 cy3 Hy3 z w from hs.at_ 0 rfl).1) (fun lenn11 => ?_)
      refine rKnow (fun w hs => (show OwnR maK 82 2 ayw3 nyw3 cyw3 Hyw3 ws w from hs.at_ 1 rfl).1) (fun lenn12 => ?_)
      refine rKnow (fun w hs => (show OwnR maK 82 2 ayv3 nyv3 cyv3 Hyv3 vs w from hs.at_ 2 rfl).1) (fun lenn13 => ?_)
      refine callP (v := .bool true) Try.call19 (fun _ h => h.pick [4, 11]) rfl rfl (fun w hs => laws_eqGame_c _ ny2 cy2 _ _ _ nyw2 cyw2 _ _ _ nyv2 cyv2 _ _ _ ny3 cy3 _ _ _ nyw3 cyw3 _ _ _ nyv3 cyv3 _ _ w (OwnR.rd (hs.at_ 5 rfl) ndK.ok) (OwnR.rd (hs.at_ 6 rfl) maK.ok) (OwnR.rd (hs.at_ 7 rfl) maK.ok) (OwnR.rd (hs.at_ 0 rfl) ndK.ok) (OwnR.rd (hs.at_ 1 rfl) maK.ok) (OwnR.rd (hs.at_ 2 rfl) maK.ok) (by exact ⟨rfl, rfl, rfl⟩)) ?_
      refine not rfl rfl rfl ?_
      refine rNil ?_
      refine qSeq rfl ?_
      refine hIfF rfl ?_
      refine hSkip ?_
      refine qSeq rfl ?_
      refine hSeq ?_
      refine hReg (sq 0 sz) (by kernel_rfl) ?_
      refine asB rfl rfl rfl ?_
      refine rNil ?_
      refine qSeq rfl ?_
      refine hRet ?_
      exact fun w hs => ⟨[.bool true], ⟨rfl, trivial⟩, ⟨by first | rfl | exact bD (by omega) | exact bT (by omega) | exact bF (by omega) | exact vI (by omega), hs.upd⟩⟩

set_option maxHeartbeats 2000000 in
theorem fnExactCardOdds_lifted (os : Os) (started : os.Started) (H : Type) (enc : TypeId × Value → H) :
    ReturnsInHanded {} Try.checked os 6 .any (Rows.fnExactCardOddsSpec.pre6 enc Try.prog Try.f6 Rows.fnExactCardOddsRow.domain false) (Rows.fnExactCardOddsSpec.post enc Try.prog Try.f6 false true false false) := by
  refine returnsInHanded_of_change (C := Try.checked) own started (by kernel_rfl) Try.func6
    (ChangeSpec.witness6 (enc := enc) (C := Try.checked) false ⟨#[], #[.agg #[.slice none 0 0, .slice none 0 0, .slice none 0 0], .int .i64 0, .int .i64 0], []⟩ 8 (by kernel_rfl) (by kernel_rfl) (by kernel_rfl) (by kernel_rfl)) ?_
  intro W base args ds gs before hval0 hW hcnd _
  have hval : ∀ (j : Nat) t v, Try.f6.params[j]? = some t → args[j]? = some v → Value.okWide Try.prog W .any base t v := hval0
  have hW' := hW
  obtain ⟨p, q, hA0, hV, rfl, hfz, hnd⟩ := hW
  have hA : DataW.TrodAll enc Try.prog W 0 (fun _ => true) true Try.f6.params.toList args.toList ds p := hA0
  rw [Try.params6] at hA hval
  obtain ⟨v0, vs0, d0, ds0, p0, q0, hargs, rfl, rfl, h0, r0⟩ := trodAll_cons hA
  obtain ⟨v1, vs1, d1, ds1, p1, q1, rfl, rfl, rfl, h1, r1⟩ := trodAll_cons r0
  obtain ⟨v2, vs2, d2, ds2, p2, q2, rfl, rfl, rfl, h2, r2⟩ := trodAll_cons r1
  obtain ⟨rfl, rfl, rfl⟩ := trodAll_nil r2
  obtain rfl : args = #[v0, v1, v2] := by cases args; simp_all
  obtain ⟨rfl, rfl⟩ := trodVars_none hV
  obtain ⟨f0, g0⟩ := h0
  obtain ⟨cs0, rfl, _⟩ := okWide_struct Try.underlying27 (hval 0 27 v0 rfl rfl)
  obtain ⟨aq0_0, nq0_0, cq0_0, hq0_0, zq0_0, aq0_1, nq0_1, cq0_1, hq0_1, zq0_1, aq0_2, nq0_2, cq0_2, hq0_2, zq0_2, e0, rq0_0, rq0_1, rq0_2⟩ := inT27 g0
  obtain rfl : cs0 = #[.slice aq0_0 nq0_0 cq0_0, .slice aq0_1 nq0_1 cq0_1, .slice aq0_2 nq0_2 cq0_2] := by apply Array.ext'; exact e0
  obtain ⟨f1, g1⟩ := h1
  obtain ⟨z1_, rfl⟩ := okWide_int Try.underlying2 (hval 1 2 v1 rfl rfl)
  obtain ⟨zq1_0, e1⟩ := inT2 g1
  simp only [Value.cells, List.cons.injEq, Value.int.injEq, and_true, true_and] at e1
  subst z1_
  obtain ⟨f2, g2⟩ := h2
  obtain ⟨z2_, rfl⟩ := okWide_int Try.underlying2 (hval 2 2 v2 rfl rfl)
  obtain ⟨zq2_0, e2⟩ := inT2 g2
  simp only [Value.cells, List.cons.injEq, Value.int.injEq, and_true, true_and] at e2
  subst z2_
  refine (laws_FnExactCardOdds_c aq0_0 nq0_0 cq0_0 hq0_0 zq0_0 aq0_1 nq0_1 cq0_1 hq0_1 zq0_1 aq0_2 nq0_2 cq0_2 hq0_2 zq0_2 zq1_0 zq2_0 W rq0_0 rq0_1 rq0_2).mono fun e W' ⟨v, he, hv, hx⟩ => ?_
  subst he; subst hv
  exact ⟨_, rfl, law_post (tb := 4) hW' rfl rfl Try.underlying4 rfl rfl rfl (by kernel_rfl) hx⟩
theorem fnExactCardOdds_holds : Rows.FnExactCardOddsSaid :=
  OpenClaim.holds_of_wide 6 Try.f6 rfl rfl rfl rfl rfl rfl rfl ⟨rfl, rfl, rfl, rfl, rfl⟩ rfl rfl rfl rfl rfl (by kernel_rfl) Try.func6 (by kernel_rfl)
    (of_decide_eq_true (by kernel_rfl)) (by unfold Func.isWrapper; first | (rw [if_pos (by decide +kernel)]; kernel_rfl) | (rw [if_neg (by decide +kernel)]; exact ⟨rfl, rfl⟩))
    (fun os started H enc _ => fnExactCardOdds_lifted os started H enc)
#print axioms fnExactCardOdds_holds

end Go.Proofs.Ytbcopkhpgolkmaa
