/- Contracts of mirrored games of the program. Their conditions stand in each. -/
import Derived.Test.YtjengglpbdgmnaaZ14Nu
import Derived.Test.YtjengglpbdgmnaaZ2Nu
import Derived.Test.YtjengglpbdgmnaaZ12Nu
import Derived.Test.YtjengglpbdgmnaaZ3Nu
import Derived.Test.YtjengglpbdgmnaaZ4Nu
import Derived.Test.YtjengglpbdgmnaaZ7Nu
import Derived.Test.YtjengglpbdgmnaaZ8Nu
import Derived.Test.YtjengglpbdgmnaaRows
namespace Go.Proofs.Ytjengglpbdgmnaa
open Go Go.RowKit V
set_option linter.unusedVariables false
set_option linter.unusedSimpArgs false
set_option maxRecDepth 100000
set_option maxHeartbeats 4000000 in
theorem impl_mirrored_c (az : Option Addr) (nz : Nat) (cz : Nat) (Hz : Nat → Hd) (z : List Nd) (aws : Option Addr) (nws : Nat) (cws : Nat) (Hws : Nat → Hd) (ws : List (List Int)) (avs : Option Addr) (nvs : Nat) (cvs : Nat) (Hvs : Nat → Hd) (vs : List (List Int)) (w : World) (rz : RdR ndK az nz Hz z w) (rws : RdR maK aws nws Hws ws w) (rvs : RdR maK avs nvs Hvs vs w) (hg : Math.isGame z ws vs = true) :
  Calls Try.prog 107 #[.agg #[.slice az nz cz, .slice aws nws cws, .slice avs nvs cvs]] w (Ret fun v w' => ∃ x : Option Addr × Nat × Nat × (Nat → Hd) × List Nd × Option Addr × Nat × Nat × (Nat → Hd) × List (List Int) × Option Addr × Nat × Nat × (Nat → Hd) × List (List Int), v = .agg #[.slice x.1 x.2.1 x.2.2.1, .slice x.2.2.2.2.2.1 x.2.2.2.2.2.2.1 x.2.2.2.2.2.2.2.1, .slice x.2.2.2.2.2.2.2.2.2.2.1 x.2.2.2.2.2.2.2.2.2.2.2.1 x.2.2.2.2.2.2.2.2.2.2.2.2.1] ∧ (x.2.2.2.2.1 = z.map Math.mirN ∧ x.2.2.2.2.2.2.2.2.2.1 = Math.mirWs ws nws nws ∧ x.2.2.2.2.2.2.2.2.2.2.2.2.2.2 = Math.mirVs vs nws nws) ∧ Sep w none_ [OwnR ndK 88 2 x.1 x.2.1 x.2.2.1 x.2.2.2.1 x.2.2.2.2.1, OwnR maK 28 2 x.2.2.2.2.2.1 x.2.2.2.2.2.2.1 x.2.2.2.2.2.2.2.1 x.2.2.2.2.2.2.2.2.1 x.2.2.2.2.2.2.2.2.2.1, OwnR maK 28 2 x.2.2.2.2.2.2.2.2.2.2.1 x.2.2.2.2.2.2.2.2.2.2.2.1 x.2.2.2.2.2.2.2.2.2.2.2.2.1 x.2.2.2.2.2.2.2.2.2.2.2.2.2.1 x.2.2.2.2.2.2.2.2.2.2.2.2.2.2] w') := by
 have kz : Kn w none_ [] (RdR ndK az nz Hz z) := fun w' hs => rz.ext hs.upd
 have lz : z.length = nz := rz.1
 have mz : nz ≤ 9223372036854775807 := rz.2.1
 have kws : Kn w none_ [] (RdR maK aws nws Hws ws) := fun w' hs => rws.ext hs.upd
 have lws : ws.length = nws := rws.1
 have mws : nws ≤ 9223372036854775807 := rws.2.1
 have kvs : Kn w none_ [] (RdR maK avs nvs Hvs vs) := fun w' hs => rvs.ext hs.upd
 have lvs : vs.length = nvs := rvs.1
 have mvs : nvs ≤ 9223372036854775807 := rvs.2.1
 have hG := Math.isGame_ok hg
 rw [lws] at hG
 have hT := Math.isTree_ok hG.1
 have hvl := Math.mat_len hG.2.2.2.1
 have hzm : (z.map Math.mirN).length = nz := by rw [List.length_map]; exact lz
 refine fn (M := none_) (rs := [.cell 2 43]) Try.func107 rfl Try.ntmps107 rfl rfl (Sep.start _ _) ?_
 refine hSeq ?_
 refine hReg (sl 0 (sl 1 sz)) (by kernel_rfl) ?_
 refine box trv1 rfl rfl rfl rfl (fun bkb1 hbkb1 => ?_)
 refine alc Try.zeroValue43 rfl trv1 rfl rfl (fun bka2 hbka2 => ?_)
 refine rNil ?_
 refine qSeq rfl ?_
 refine hSeq ?_
 refine hReg (sq 0 (sl 1 (sl 2 (sq 3 (sl 4 (sl 5 sz)))))) (by kernel_rfl) ?_
 refine fld fl43_0 rfl rfl rfl ?_
 refine ldAl Try.isAgg26 Try.sizeOf26 (cBp (m := 1) 1 rfl rfl) trv rfl rfl rfl rfl ?_
 refine callS Try.call157 trv1 rfl rfl (fun w hs => impl_cloneTree_c _ nz cz _ _ w (Kn.drop (k := 2) kz w hs) hG.1) ?_
 rintro ⟨ay1, ny1, cy1, Hy1, y1⟩ hr1
 dsimp only at hr1
 subst y1
 refine rKnow (fun w hs => (show OwnR ndK 88 2 ay1 ny1 cy1 Hy1 z w from hs.at_ 0 rfl).1) (fun lenn3 => ?_)
 refine bld rfl rfl rfl (bld43_0 (.slice ay1 ny1 cy1) rfl) ?_
 refine alc Try.zeroValue43 rfl trv1 rfl rfl (fun bka4 hbka4 => ?_)
 refine stAl (vs := [.slice ay1 ny1 cy1, .slice none 0 0, .slice none 0 0]) 0 rfl Try.sizeOf43 trv rfl rfl rfl rfl rfl (by simp [Value.oneCell']) rfl ?_
 refine rNil ?_
 refine qSeq rfl ?_
 refine hSeq ?_
 refine hSeq ?_
 refine hReg (sq 0 (sq 1 (sl 2 (sq 3 (sq 4 sz))))) (by kernel_rfl) ?_
 refine fld fl43_0 rfl rfl rfl ?_
 refine fld fl26_0 rfl rfl rfl ?_
 refine ldl Try.isAgg24 (cB 0 rfl rfl) trv rfl rfl rfl ?_
 refine lenS Try.runUnderlying24 rfl rfl rfl ?_
 refine mvI rfl rfl rfl ?_
 refine rNil ?_
 refine qSeq rfl ?_
 refine hBlk ?_
 refine hLoop (α := Nat) (fun i1 => i1 ≤ nz) (fun i1 => nz - i1) (fun i1 => [blk bka4 43 [.slice ay1 ny1 cy1, .slice none 0 0, .slice none 0 0], OwnR ndK 88 2 ay1 ny1 cy1 Hy1 (((z.map Math.mirN).take i1 ++ z.drop i1)), blk bka2 43 [.slice none 0 0, .slice none 0 0, .slice none 0 0], blk bkb1 43 [.slice az nz cz, .slice aws nws cws, .slice avs nvs cvs]]) (fun i1 => [(1, .pointer (some ⟨bkb1, 0, none⟩)), (2, .pointer (some ⟨bka2, 0, none⟩)), (3, .pointer (some ⟨bka4, 0, none⟩)), (18, .int .i64 (ny1 : Int)), (19, .int .i64 (i1 : Int))]) 0 (Nat.zero_le _) (fun _ h => (by simp only [List.take_zero, List.drop_zero, List.nil_append]; exact h.pick [0, 0, 0, 0])) ⟨rfl, rfl, rfl, rfl, rfl, trivial⟩ ?_
 rintro i1 τ1 hi1
 refine hSeq ?_
 refine hReg (sq 0 sz) (by kernel_rfl) ?_
 refine lss rfl rfl rfl rfl ?_
 refine rNil ?_
 refine qSeq rfl ?_
 refine hSeq ?_
 refine hIfD rfl (fun c1 => ?_) (fun c1 => ?_)
 ·
  replace c1 : (i1 : Int) < (ny1 : Int) := c1
  have hch := Math.ok_pl ((Math.allOk_iff' lz).1 hT.2.1 i1 (by omega))
  refine hSkip ?_
  refine qSeq rfl ?_
  refine hSeq ?_
  refine hBlk ?_
  refine hSeq ?_
  refine hReg (sq 0 (sq 1 sz)) (by kernel_rfl) ?_
  refine mvI rfl rfl rfl ?_
  refine asI rfl rfl rfl ?_
  refine rNil ?_
  refine qSeq rfl ?_
  refine hSeq ?_
  refine hReg (sq 0 (sq 1 (sl 2 (sq 3 (sq 4 (sq 5 sz)))))) (by kernel_rfl) ?_
  refine fld fl43_0 rfl rfl rfl ?_
  refine fld fl26_0 rfl rfl rfl ?_
  refine ldl Try.isAgg24 (cB 0 rfl rfl) trv rfl rfl rfl ?_
  refine mvI rfl rfl rfl ?_
  refine oxR (zn := i1) 1 rfl el24 rfl rfl rfl rfl (by omega) (by omega) rfl ?_
  intro gk2 hgk2
  refine asn rfl rfl rfl ?_
  refine rNil ?_
  refine qSeq rfl ?_
  refine hSeq ?_
  refine hDraw (Ls := []) (by kernel_rfl) (sq 0 (sq 1 (sq 2 (sq 3 (sq 4 (sq 6 (sq 7 (sq 8 (.alt (sl 5 (sl 9 (sq 10 (sq 11 (sl 12 (sq 13 (sq 14 (sl 15 sz)))))))) (sl 9 (sl 5 (sq 10 (sq 11 (sl 12 (sq 13 (sq 14 (sl 15 sz))))))))))))))))) (by kernel_rfl) (.cons _ (.cons _ (.cons _ (.cons _ .slnil)))) ?_
  refine mvP rfl rfl rfl ?_
  refine mvP rfl rfl rfl ?_
  refine mvP rfl rfl rfl ?_
  refine nilc rfl rfl rfl ?_
  refine fld fl88_2 rfl rfl rfl ?_
  refine mvP rfl rfl rfl ?_
  refine nilc rfl rfl rfl ?_
  refine fld fl88_1 rfl rfl rfl ?_
  refine rAlt ?_ ?_
  ·
   refine ldl Try.isAgg2 (cR (f := 2) (v := .int .i64 ((z.getD i1 dN).p1)) (z.getD i1 dN) i1 1 ndK.ok rfl hgk2 (Math.turn_at dN hzm lz (by omega)) rfl rfl) (fun _ h => h.pick []) rfl rfl rfl ?_
   refine ldl Try.isAgg2 (cR (f := 1) (v := .int .i64 ((z.getD i1 dN).p0)) (z.getD i1 dN) i1 1 ndK.ok rfl hgk2 (Math.turn_at dN hzm lz (by omega)) rfl rfl) (fun _ h => h.pick []) rfl rfl rfl ?_
   refine nilc rfl rfl rfl ?_
   refine fld fl88_1 rfl rfl rfl ?_
   refine stRc (f := 1) (z.getD i1 dN) (Nd.mk ((z.getD i1 dN).pl) ((z.getD i1 dN).p1) ((z.getD i1 dN).p1) ((z.getD i1 dN).fo) ((z.getD i1 dN).ch)) i1 1 ndK.ok rfl hgk2 (Math.turn_at dN hzm lz (by omega)) rfl rfl Try.sizeOf2 (fun _ h => h.pick []) rfl rfl rfl rfl (by decide) rfl rfl ?_
   refine nilc rfl rfl rfl ?_
   refine fld fl88_2 rfl rfl rfl ?_
   refine stRc (f := 2) (Nd.mk ((z.getD i1 dN).pl) ((z.getD i1 dN).p1) ((z.getD i1 dN).p1) ((z.getD i1 dN).fo) ((z.getD i1 dN).ch)) (Nd.mk (((z.getD i1 dN).pl)) (((z.getD i1 dN).p1)) ((z.getD i1 dN).p0) (((z.getD i1 dN).fo)) (((z.getD i1 dN).ch))) i1 1 ndK.ok rfl hgk2 (Math.set_at (l := ((z.map Math.mirN).take i1 ++ z.drop i1)) (by rw [Math.turn_len hzm lz]; omega)) rfl rfl Try.sizeOf2 (fun _ h => h.pick []) rfl rfl rfl rfl (by decide) rfl rfl ?_
   rw [Math.set_two (((z.map Math.mirN).take i1 ++ z.drop i1))]
   refine rNil ?_
   refine qSeq rfl ?_
   refine hSeq ?_
   refine hSeq ?_
   refine hReg (sq 0 (sq 1 (sq 2 (sl 3 (sq 4 sz))))) (by kernel_rfl) ?_
   refine mvP rfl rfl rfl ?_
   refine nilc rfl rfl rfl ?_
   refine fld fl88_0 rfl rfl rfl ?_
   refine ldl Try.isAgg2 (cR (f := 0) (v := .int .i64 ((((z.getD i1 dN).pl)))) ((Nd.mk (((z.getD i1 dN).pl)) (((z.getD i1 dN).p1)) ((z.getD i1 dN).p0) (((z.getD i1 dN).fo)) (((z.getD i1 dN).ch)))) i1 1 ndK.ok rfl hgk2 (Math.set_at (l := ((z.map Math.mirN).take i1 ++ z.drop i1)) (by rw [Math.turn_len hzm lz]; omega)) rfl rfl) trv rfl rfl rfl ?_
   refine neq rfl rfl rfl rfl ?_
   refine rNil ?_
   refine qSeq rfl ?_
   refine hIfD rfl (fun c2 => ?_) (fun c2 => ?_)
   ·
    replace c2 : (((z.getD i1 dN).pl)) ≠ 2 := c2
    refine hReg (sq 0 (sq 1 (sq 2 (sq 3 (sl 4 (sq 5 (sq 6 (sq 7 (sl 8 sz))))))))) (by kernel_rfl) ?_
    refine mvP rfl rfl rfl ?_
    refine mvP rfl rfl rfl ?_
    refine nilc rfl rfl rfl ?_
    refine fld fl88_0 rfl rfl rfl ?_
    refine ldl Try.isAgg2 (cR (f := 0) (v := .int .i64 ((((z.getD i1 dN).pl)))) ((Nd.mk (((z.getD i1 dN).pl)) (((z.getD i1 dN).p1)) ((z.getD i1 dN).p0) (((z.getD i1 dN).fo)) (((z.getD i1 dN).ch)))) i1 1 ndK.ok rfl hgk2 (Math.set_at (l := ((z.map Math.mirN).take i1 ++ z.drop i1)) (by rw [Math.turn_len hzm lz]; omega)) rfl rfl) trv rfl rfl rfl ?_
    refine sub rfl rfl rfl rfl (by omega) ?_
    refine nilc rfl rfl rfl ?_
    refine fld fl88_0 rfl rfl rfl ?_
    refine stRc (f := 0) (Nd.mk (((z.getD i1 dN).pl)) (((z.getD i1 dN).p1)) ((z.getD i1 dN).p0) (((z.getD i1 dN).fo)) (((z.getD i1 dN).ch))) (Nd.mk ((1 - (((z.getD i1 dN).pl)))) ((((z.getD i1 dN).p1))) (((z.getD i1 dN).p0)) ((((z.getD i1 dN).fo))) ((((z.getD i1 dN).ch)))) i1 1 ndK.ok rfl hgk2 (Math.set_at (l := ((z.map Math.mirN).take i1 ++ z.drop i1)) (by rw [Math.turn_len hzm lz]; omega)) rfl rfl Try.sizeOf2 trv rfl rfl rfl rfl (by decide) rfl rfl ?_
    rw [Math.set_two (((z.map Math.mirN).take i1 ++ z.drop i1))]
    refine rNil ?_
    refine qSeq rfl ?_
    refine hSeq ?_
    refine hReg (sq 0 (sq 1 (sq 2 (sl 3 (sq 4 sz))))) (by kernel_rfl) ?_
    refine mvP rfl rfl rfl ?_
    refine nilc rfl rfl rfl ?_
    refine fld fl88_3 rfl rfl rfl ?_
    refine ldl Try.isAgg2 (cR (f := 3) (v := .int .i64 (((((z.getD i1 dN).fo))))) ((Nd.mk ((1 - (((z.getD i1 dN).pl)))) ((((z.getD i1 dN).p1))) (((z.getD i1 dN).p0)) ((((z.getD i1 dN).fo))) ((((z.getD i1 dN).ch))))) i1 1 ndK.ok rfl hgk2 (Math.set_at (l := ((z.map Math.mirN).take i1 ++ z.drop i1)) (by rw [Math.turn_len hzm lz]; omega)) rfl rfl) trv rfl rfl rfl ?_
    refine geq rfl rfl rfl rfl ?_
    refine rNil ?_
    refine qSeq rfl ?_
    refine hIfD rfl (fun c3 => ?_) (fun c3 => ?_)
    ·
     replace c3 : 0 ≤ ((((z.getD i1 dN).fo))) := c3
     refine hReg (sq 0 (sq 1 (sq 2 (sq 3 (sl 4 (sq 5 (sq 6 (sq 7 (sl 8 sz))))))))) (by kernel_rfl) ?_
     refine mvP rfl rfl rfl ?_
     refine mvP rfl rfl rfl ?_
     refine nilc rfl rfl rfl ?_
     refine fld fl88_3 rfl rfl rfl ?_
     refine ldl Try.isAgg2 (cR (f := 3) (v := .int .i64 (((((z.getD i1 dN).fo))))) ((Nd.mk ((1 - (((z.getD i1 dN).pl)))) ((((z.getD i1 dN).p1))) (((z.getD i1 dN).p0)) ((((z.getD i1 dN).fo))) ((((z.getD i1 dN).ch))))) i1 1 ndK.ok rfl hgk2 (Math.set_at (l := ((z.map Math.mirN).take i1 ++ z.drop i1)) (by rw [Math.turn_len hzm lz]; omega)) rfl rfl) trv rfl rfl rfl ?_
     refine sub rfl rfl rfl rfl (by omega) ?_
     refine nilc rfl rfl rfl ?_
     refine fld fl88_3 rfl rfl rfl ?_
     refine stRc (f := 3) (Nd.mk ((1 - (((z.getD i1 dN).pl)))) ((((z.getD i1 dN).p1))) (((z.getD i1 dN).p0)) ((((z.getD i1 dN).fo))) ((((z.getD i1 dN).ch)))) (Nd.mk (((1 - (((z.getD i1 dN).pl))))) (((((z.getD i1 dN).p1)))) ((((z.getD i1 dN).p0))) ((1 - ((((z.getD i1 dN).fo))))) (((((z.getD i1 dN).ch))))) i1 1 ndK.ok rfl hgk2 (Math.set_at (l := ((z.map Math.mirN).take i1 ++ z.drop i1)) (by rw [Math.turn_len hzm lz]; omega)) rfl rfl Try.sizeOf2 trv rfl rfl rfl rfl (by decide) rfl rfl ?_
     rw [Math.set_two (((z.map Math.mirN).take i1 ++ z.drop i1))]
     refine rNil ?_
     refine qSeq rfl ?_
     refine hReg (sq 0 (sq 1 sz)) (by kernel_rfl) ?_
     refine add rfl rfl rfl rfl (by omega) ?_
     refine mvI rfl rfl rfl ?_
     refine rNil ?_
     rw [show (Nd.mk (((1 - (((z.getD i1 dN).pl))))) (((((z.getD i1 dN).p1)))) ((((z.getD i1 dN).p0))) ((1 - ((((z.getD i1 dN).fo))))) (((((z.getD i1 dN).ch))))) = (z.map Math.mirN).getD i1 dN from Math.mirN_is (by omega) (by unfold Math.swap; split <;> omega) (by unfold Math.swap; split <;> omega), Math.turn_step dN hzm lz (by omega)]
     exact qNext rfl (i1 + 1) (by omega) (by omega) ⟨rfl, rfl, rfl, rfl, rfl, trivial⟩ (fun _ h => h.pick [0, 0, 0, 0])
    ·
     replace c3 : ¬ (0 ≤ ((((z.getD i1 dN).fo)))) := c3
     refine hSkip ?_
     refine qSeq rfl ?_
     refine hReg (sq 0 (sq 1 sz)) (by kernel_rfl) ?_
     refine add rfl rfl rfl rfl (by omega) ?_
     refine mvI rfl rfl rfl ?_
     refine rNil ?_
     rw [show (Nd.mk ((1 - (((z.getD i1 dN).pl)))) ((((z.getD i1 dN).p1))) (((z.getD i1 dN).p0)) ((((z.getD i1 dN).fo))) ((((z.getD i1 dN).ch)))) = (z.map Math.mirN).getD i1 dN from Math.mirN_is (by omega) (by unfold Math.swap; split <;> omega) (by unfold Math.swap; split <;> omega), Math.turn_step dN hzm lz (by omega)]
     exact qNext rfl (i1 + 1) (by omega) (by omega) ⟨rfl, rfl, rfl, rfl, rfl, trivial⟩ (fun _ h => h.pick [0, 0, 0, 0])
   ·
    replace c2 : ¬ ((((z.getD i1 dN).pl)) ≠ 2) := c2
    refine hSkip ?_
    refine qSeq rfl ?_
    refine hSeq ?_
    refine hReg (sq 0 (sq 1 (sq 2 (sl 3 (sq 4 sz))))) (by kernel_rfl) ?_
    refine mvP rfl rfl rfl ?_
    refine nilc rfl rfl rfl ?_
    refine fld fl88_3 rfl rfl rfl ?_
    refine ldl Try.isAgg2 (cR (f := 3) (v := .int .i64 ((((z.getD i1 dN).fo)))) ((Nd.mk (((z.getD i1 dN).pl)) (((z.getD i1 dN).p1)) ((z.getD i1 dN).p0) (((z.getD i1 dN).fo)) (((z.getD i1 dN).ch)))) i1 1 ndK.ok rfl hgk2 (Math.set_at (l := ((z.map Math.mirN).take i1 ++ z.drop i1)) (by rw [Math.turn_len hzm lz]; omega)) rfl rfl) trv rfl rfl rfl ?_
    refine geq rfl rfl rfl rfl ?_
    refine rNil ?_
    refine qSeq rfl ?_
    refine hIfD rfl (fun c4 => ?_) (fun c4 => ?_)
    ·
     replace c4 : 0 ≤ (((z.getD i1 dN).fo)) := c4
     refine hReg (sq 0 (sq 1 (sq 2 (sq 3 (sl 4 (sq 5 (sq 6 (sq 7 (sl 8 sz))))))))) (by kernel_rfl) ?_
     refine mvP rfl rfl rfl ?_
     refine mvP rfl rfl rfl ?_
     refine nilc rfl rfl rfl ?_
     refine fld fl88_3 rfl rfl rfl ?_
     refine ldl Try.isAgg2 (cR (f := 3) (v := .int .i64 ((((z.getD i1 dN).fo)))) ((Nd.mk (((z.getD i1 dN).pl)) (((z.getD i1 dN).p1)) ((z.getD i1 dN).p0) (((z.getD i1 dN).fo)) (((z.getD i1 dN).ch)))) i1 1 ndK.ok rfl hgk2 (Math.set_at (l := ((z.map Math.mirN).take i1 ++ z.drop i1)) (by rw [Math.turn_len hzm lz]; omega)) rfl rfl) trv rfl rfl rfl ?_
     refine sub rfl rfl rfl rfl (by omega) ?_
     refine nilc rfl rfl rfl ?_
     refine fld fl88_3 rfl rfl rfl ?_
     refine stRc (f := 3) (Nd.mk (((z.getD i1 dN).pl)) (((z.getD i1 dN).p1)) ((z.getD i1 dN).p0) (((z.getD i1 dN).fo)) (((z.getD i1 dN).ch))) (Nd.mk ((((z.getD i1 dN).pl))) ((((z.getD i1 dN).p1))) (((z.getD i1 dN).p0)) ((1 - (((z.getD i1 dN).fo)))) ((((z.getD i1 dN).ch)))) i1 1 ndK.ok rfl hgk2 (Math.set_at (l := ((z.map Math.mirN).take i1 ++ z.drop i1)) (by rw [Math.turn_len hzm lz]; omega)) rfl rfl Try.sizeOf2 trv rfl rfl rfl rfl (by decide) rfl rfl ?_
     rw [Math.set_two (((z.map Math.mirN).take i1 ++ z.drop i1))]
     refine rNil ?_
     refine qSeq rfl ?_
     refine hReg (sq 0 (sq 1 sz)) (by kernel_rfl) ?_
     refine add rfl rfl rfl rfl (by omega) ?_
     refine mvI rfl rfl rfl ?_
     refine rNil ?_
     rw [show (Nd.mk ((((z.getD i1 dN).pl))) ((((z.getD i1 dN).p1))) (((z.getD i1 dN).p0)) ((1 - (((z.getD i1 dN).fo)))) ((((z.getD i1 dN).ch)))) = (z.map Math.mirN).getD i1 dN from Math.mirN_is (by omega) (by unfold Math.swap; split <;> omega) (by unfold Math.swap; split <;> omega), Math.turn_step dN hzm lz (by omega)]
     exact qNext rfl (i1 + 1) (by omega) (by omega) ⟨rfl, rfl, rfl, rfl, rfl, trivial⟩ (fun _ h => h.pick [0, 0, 0, 0])
    ·
     replace c4 : ¬ (0 ≤ (((z.getD i1 dN).fo))) := c4
     refine hSkip ?_
     refine qSeq rfl ?_
     refine hReg (sq 0 (sq 1 sz)) (by kernel_rfl) ?_
     refine add rfl rfl rfl rfl (by omega) ?_
     refine mvI rfl rfl rfl ?_
     refine rNil ?_
     rw [show (Nd.mk (((z.getD i1 dN).pl)) (((z.getD i1 dN).p1)) ((z.getD i1 dN).p0) (((z.getD i1 dN).fo)) (((z.getD i1 dN).ch))) = (z.map Math.mirN).getD i1 dN from Math.mirN_is (by omega) (by unfold Math.swap; split <;> omega) (by unfold Math.swap; split <;> omega), Math.turn_step dN hzm lz (by omega)]
     exact qNext rfl (i1 + 1) (by omega) (by omega) ⟨rfl, rfl, rfl, rfl, rfl, trivial⟩ (fun _ h => h.pick [0, 0, 0, 0])
  ·
   refine ldl Try.isAgg2 (cR (f := 1) (v := .int .i64 ((z.getD i1 dN).p0)) (z.getD i1 dN) i1 1 ndK.ok rfl hgk2 (Math.turn_at dN hzm lz (by omega)) rfl rfl) (fun _ h => h.pick []) rfl rfl rfl ?_
   refine ldl Try.isAgg2 (cR (f := 2) (v := .int .i64 ((z.getD i1 dN).p1)) (z.getD i1 dN) i1 1 ndK.ok rfl hgk2 (Math.turn_at dN hzm lz (by omega)) rfl rfl) (fun _ h => h.pick []) rfl rfl rfl ?_
   refine nilc rfl rfl rfl ?_
   refine fld fl88_1 rfl rfl rfl ?_
   refine stRc (f := 1) (z.getD i1 dN) (Nd.mk ((z.getD i1 dN).pl) ((z.getD i1 dN).p1) ((z.getD i1 dN).p1) ((z.getD i1 dN).fo) ((z.getD i1 dN).ch)) i1 1 ndK.ok rfl hgk2 (Math.turn_at dN hzm lz (by omega)) rfl rfl Try.sizeOf2 (fun _ h => h.pick []) rfl rfl rfl rfl (by decide) rfl rfl ?_
   refine nilc rfl rfl rfl ?_
   refine fld fl88_2 rfl rfl rfl ?_
   refine stRc (f := 2) (Nd.mk ((z.getD i1 dN).pl) ((z.getD i1 dN).p1) ((z.getD i1 dN).p1) ((z.getD i1 dN).fo) ((z.getD i1 dN).ch)) (Nd.mk (((z.getD i1 dN).pl)) (((z.getD i1 dN).p1)) ((z.getD i1 dN).p0) (((z.getD i1 dN).fo)) (((z.getD i1 dN).ch))) i1 1 ndK.ok rfl hgk2 (Math.set_at (l := ((z.map Math.mirN).take i1 ++ z.drop i1)) (by rw [Math.turn_len hzm lz]; omega)) rfl rfl Try.sizeOf2 (fun _ h => h.pick []) rfl rfl rfl rfl (by decide) rfl rfl ?_
   rw [Math.set_two (((z.map Math.mirN).take i1 ++ z.drop i1))]
   refine rNil ?_
   refine qSeq rfl ?_
   refine hSeq ?_
   refine hSeq ?_
   refine hReg (sq 0 (sq 1 (sq 2 (sl 3 (sq 4 sz))))) (by kernel_rfl) ?_
   refine mvP rfl rfl rfl ?_
   refine nilc rfl rfl rfl ?_
   refine fld fl88_0 rfl rfl rfl ?_
   refine ldl Try.isAgg2 (cR (f := 0) (v := .int .i64 ((((z.getD i1 dN).pl)))) ((Nd.mk (((z.getD i1 dN).pl)) (((z.getD i1 dN).p1)) ((z.getD i1 dN).p0) (((z.getD i1 dN).fo)) (((z.getD i1 dN).ch)))) i1 1 ndK.ok rfl hgk2 (Math.set_at (l := ((z.map Math.mirN).take i1 ++ z.drop i1)) (by rw [Math.turn_len hzm lz]; omega)) rfl rfl) trv rfl rfl rfl ?_
   refine neq rfl rfl rfl rfl ?_
   refine rNil ?_
   refine qSeq rfl ?_
   refine hIfD rfl (fun c5 => ?_) (fun c5 => ?_)
   ·
    replace c5 : (((z.getD i1 dN).pl)) ≠ 2 := c5
    refine hReg (sq 0 (sq 1 (sq 2 (sq 3 (sl 4 (sq 5 (sq 6 (sq 7 (sl 8 sz))))))))) (by kernel_rfl) ?_
    refine mvP rfl rfl rfl ?_
    refine mvP rfl rfl rfl ?_
    refine nilc rfl rfl rfl ?_
    refine fld fl88_0 rfl rfl rfl ?_
    refine ldl Try.isAgg2 (cR (f := 0) (v := .int .i64 ((((z.getD i1 dN).pl)))) ((Nd.mk (((z.getD i1 dN).pl)) (((z.getD i1 dN).p1)) ((z.getD i1 dN).p0) (((z.getD i1 dN).fo)) (((z.getD i1 dN).ch)))) i1 1 ndK.ok rfl hgk2 (Math.set_at (l := ((z.map Math.mirN).take i1 ++ z.drop i1)) (by rw [Math.turn_len hzm lz]; omega)) rfl rfl) trv rfl rfl rfl ?_
    refine sub rfl rfl rfl rfl (by omega) ?_
    refine nilc rfl rfl rfl ?_
    refine fld fl88_0 rfl rfl rfl ?_
    refine stRc (f := 0) (Nd.mk (((z.getD i1 dN).pl)) (((z.getD i1 dN).p1)) ((z.getD i1 dN).p0) (((z.getD i1 dN).fo)) (((z.getD i1 dN).ch))) (Nd.mk ((1 - (((z.getD i1 dN).pl)))) ((((z.getD i1 dN).p1))) (((z.getD i1 dN).p0)) ((((z.getD i1 dN).fo))) ((((z.getD i1 dN).ch)))) i1 1 ndK.ok rfl hgk2 (Math.set_at (l := ((z.map Math.mirN).take i1 ++ z.drop i1)) (by rw [Math.turn_len hzm lz]; omega)) rfl rfl Try.sizeOf2 trv rfl rfl rfl rfl (by decide) rfl rfl ?_
    rw [Math.set_two (((z.map Math.mirN).take i1 ++ z.drop i1))]
    refine rNil ?_
    refine qSeq rfl ?_
    refine hSeq ?_
    refine hReg (sq 0 (sq 1 (sq 2 (sl 3 (sq 4 sz))))) (by kernel_rfl) ?_
    refine mvP rfl rfl rfl ?_
    refine nilc rfl rfl rfl ?_
    refine fld fl88_3 rfl rfl rfl ?_
    refine ldl Try.isAgg2 (cR (f := 3) (v := .int .i64 (((((z.getD i1 dN).fo))))) ((Nd.mk ((1 - (((z.getD i1 dN).pl)))) ((((z.getD i1 dN).p1))) (((z.getD i1 dN).p0)) ((((z.getD i1 dN).fo))) ((((z.getD i1 dN).ch))))) i1 1 ndK.ok rfl hgk2 (Math.set_at (l := ((z.map Math.mirN).take i1 ++ z.drop i1)) (by rw [Math.turn_len hzm lz]; omega)) rfl rfl) trv rfl rfl rfl ?_
    refine geq rfl rfl rfl rfl ?_
    refine rNil ?_
    refine qSeq rfl ?_
    refine hIfD rfl (fun c6 => ?_) (fun c6 => ?_)
    ·
     replace c6 : 0 ≤ ((((z.getD i1 dN).fo))) := c6
     refine hReg (sq 0 (sq 1 (sq 2 (sq 3 (sl 4 (sq 5 (sq 6 (sq 7 (sl 8 sz))))))))) (by kernel_rfl) ?_
     refine mvP rfl rfl rfl ?_
     refine mvP rfl rfl rfl ?_
     refine nilc rfl rfl rfl ?_
     refine fld fl88_3 rfl rfl rfl ?_
     refine ldl Try.isAgg2 (cR (f := 3) (v := .int .i64 (((((z.getD i1 dN).fo))))) ((Nd.mk ((1 - (((z.getD i1 dN).pl)))) ((((z.getD i1 dN).p1))) (((z.getD i1 dN).p0)) ((((z.getD i1 dN).fo))) ((((z.getD i1 dN).ch))))) i1 1 ndK.ok rfl hgk2 (Math.set_at (l := ((z.map Math.mirN).take i1 ++ z.drop i1)) (by rw [Math.turn_len hzm lz]; omega)) rfl rfl) trv rfl rfl rfl ?_
     refine sub rfl rfl rfl rfl (by omega) ?_
     refine nilc rfl rfl rfl ?_
     refine fld fl88_3 rfl rfl rfl ?_
     refine stRc (f := 3) (Nd.mk ((1 - (((z.getD i1 dN).pl)))) ((((z.getD i1 dN).p1))) (((z.getD i1 dN).p0)) ((((z.getD i1 dN).fo))) ((((z.getD i1 dN).ch)))) (Nd.mk (((1 - (((z.getD i1 dN).pl))))) (((((z.getD i1 dN).p1)))) ((((z.getD i1 dN).p0))) ((1 - ((((z.getD i1 dN).fo))))) (((((z.getD i1 dN).ch))))) i1 1 ndK.ok rfl hgk2 (Math.set_at (l := ((z.map Math.mirN).take i1 ++ z.drop i1)) (by rw [Math.turn_len hzm lz]; omega)) rfl rfl Try.sizeOf2 trv rfl rfl rfl rfl (by decide) rfl rfl ?_
     rw [Math.set_two (((z.map Math.mirN).take i1 ++ z.drop i1))]
     refine rNil ?_
     refine qSeq rfl ?_
     refine hReg (sq 0 (sq 1 sz)) (by kernel_rfl) ?_
     refine add rfl rfl rfl rfl (by omega) ?_
     refine mvI rfl rfl rfl ?_
     refine rNil ?_
     rw [show (Nd.mk (((1 - (((z.getD i1 dN).pl))))) (((((z.getD i1 dN).p1)))) ((((z.getD i1 dN).p0))) ((1 - ((((z.getD i1 dN).fo))))) (((((z.getD i1 dN).ch))))) = (z.map Math.mirN).getD i1 dN from Math.mirN_is (by omega) (by unfold Math.swap; split <;> omega) (by unfold Math.swap; split <;> omega), Math.turn_step dN hzm lz (by omega)]
     exact qNext rfl (i1 + 1) (by omega) (by omega) ⟨rfl, rfl, rfl, rfl, rfl, trivial⟩ (fun _ h => h.pick [0, 0, 0, 0])
    ·
     replace c6 : ¬ (0 ≤ ((((z.getD i1 dN).fo)))) := c6
     refine hSkip ?_
     refine qSeq rfl ?_
     refine hReg (sq 0 (sq 1 sz)) (by kernel_rfl) ?_
     refine add rfl rfl rfl rfl (by omega) ?_
     refine mvI rfl rfl rfl ?_
     refine rNil ?_
     rw [show (Nd.mk ((1 - (((z.getD i1 dN).pl)))) ((((z.getD i1 dN).p1))) (((z.getD i1 dN).p0)) ((((z.getD i1 dN).fo))) ((((z.getD i1 dN).ch)))) = (z.map Math.mirN).getD i1 dN from Math.mirN_is (by omega) (by unfold Math.swap; split <;> omega) (by unfold Math.swap; split <;> omega), Math.turn_step dN hzm lz (by omega)]
     exact qNext rfl (i1 + 1) (by omega) (by omega) ⟨rfl, rfl, rfl, rfl, rfl, trivial⟩ (fun _ h => h.pick [0, 0, 0, 0])
   ·
    replace c5 : ¬ ((((z.getD i1 dN).pl)) ≠ 2) := c5
    refine hSkip ?_
    refine qSeq rfl ?_
    refine hSeq ?_
    refine hReg (sq 0 (sq 1 (sq 2 (sl 3 (sq 4 sz))))) (by kernel_rfl) ?_
    refine mvP rfl rfl rfl ?_
    refine nilc rfl rfl rfl ?_
    refine fld fl88_3 rfl rfl rfl ?_
    refine ldl Try.isAgg2 (cR (f := 3) (v := .int .i64 ((((z.getD i1 dN).fo)))) ((Nd.mk (((z.getD i1 dN).pl)) (((z.getD i1 dN).p1)) ((z.getD i1 dN).p0) (((z.getD i1 dN).fo)) (((z.getD i1 dN).ch)))) i1 1 ndK.ok rfl hgk2 (Math.set_at (l := ((z.map Math.mirN).take i1 ++ z.drop i1)) (by rw [Math.turn_len hzm lz]; omega)) rfl rfl) trv rfl rfl rfl ?_
    refine geq rfl rfl rfl rfl ?_
    refine rNil ?_
    refine qSeq rfl ?_
    refine hIfD rfl (fun c7 => ?_) (fun c7 => ?_)
    ·
     replace c7 : 0 ≤ (((z.getD i1 dN).fo)) := c7
     refine hReg (sq 0 (sq 1 (sq 2 (sq 3 (sl 4 (sq 5 (sq 6 (sq 7 (sl 8 sz))))))))) (by kernel_rfl) ?_
     refine mvP rfl rfl rfl ?_
     refine mvP rfl rfl rfl ?_
     refine nilc rfl rfl rfl ?_
     refine fld fl88_3 rfl rfl rfl ?_
     refine ldl Try.isAgg2 (cR (f := 3) (v := .int .i64 ((((z.getD i1 dN).fo)))) ((Nd.mk (((z.getD i1 dN).pl)) (((z.getD i1 dN).p1)) ((z.getD i1 dN).p0) (((z.getD i1 dN).fo)) (((z.getD i1 dN).ch)))) i1 1 ndK.ok rfl hgk2 (Math.set_at (l := ((z.map Math.mirN).take i1 ++ z.drop i1)) (by rw [Math.turn_len hzm lz]; omega)) rfl rfl) trv rfl rfl rfl ?_
     refine sub rfl rfl rfl rfl (by omega) ?_
     refine nilc rfl rfl rfl ?_
     refine fld fl88_3 rfl rfl rfl ?_
     refine stRc (f := 3) (Nd.mk (((z.getD i1 dN).pl)) (((z.getD i1 dN).p1)) ((z.getD i1 dN).p0) (((z.getD i1 dN).fo)) (((z.getD i1 dN).ch))) (Nd.mk ((((z.getD i1 dN).pl))) ((((z.getD i1 dN).p1))) (((z.getD i1 dN).p0)) ((1 - (((z.getD i1 dN).fo)))) ((((z.getD i1 dN).ch)))) i1 1 ndK.ok rfl hgk2 (Math.set_at (l := ((z.map Math.mirN).take i1 ++ z.drop i1)) (by rw [Math.turn_len hzm lz]; omega)) rfl rfl Try.sizeOf2 trv rfl rfl rfl rfl (by decide) rfl rfl ?_
     rw [Math.set_two (((z.map Math.mirN).take i1 ++ z.drop i1))]
     refine rNil ?_
     refine qSeq rfl ?_
     refine hReg (sq 0 (sq 1 sz)) (by kernel_rfl) ?_
     refine add rfl rfl rfl rfl (by omega) ?_
     refine mvI rfl rfl rfl ?_
     refine rNil ?_
     rw [show (Nd.mk ((((z.getD i1 dN).pl))) ((((z.getD i1 dN).p1))) (((z.getD i1 dN).p0)) ((1 - (((z.getD i1 dN).fo)))) ((((z.getD i1 dN).ch)))) = (z.map Math.mirN).getD i1 dN from Math.mirN_is (by omega) (by unfold Math.swap; split <;> omega) (by unfold Math.swap; split <;> omega), Math.turn_step dN hzm lz (by omega)]
     exact qNext rfl (i1 + 1) (by omega) (by omega) ⟨rfl, rfl, rfl, rfl, rfl, trivial⟩ (fun _ h => h.pick [0, 0, 0, 0])
    ·
     replace c7 : ¬ (0 ≤ (((z.getD i1 dN).fo))) := c7
     refine hSkip ?_
     refine qSeq rfl ?_
     refine hReg (sq 0 (sq 1 sz)) (by kernel_rfl) ?_
     refine add rfl rfl rfl rfl (by omega) ?_
     refine mvI rfl rfl rfl ?_
     refine rNil ?_
     rw [show (Nd.mk (((z.getD i1 dN).pl)) (((z.getD i1 dN).p1)) ((z.getD i1 dN).p0) (((z.getD i1 dN).fo)) (((z.getD i1 dN).ch))) = (z.map Math.mirN).getD i1 dN from Math.mirN_is (by omega) (by unfold Math.swap; split <;> omega) (by unfold Math.swap; split <;> omega), Math.turn_step dN hzm lz (by omega)]
     exact qNext rfl (i1 + 1) (by omega) (by omega) ⟨rfl, rfl, rfl, rfl, rfl, trivial⟩ (fun _ h => h.pick [0, 0, 0, 0])
 ·
  replace c1 : ¬ ((i1 : Int) < (ny1 : Int)) := c1
  rw [Math.turn_end hzm lz (by omega)]
  refine hExit rfl ?_
  refine qSeq rfl ?_
  refine hSeq ?_
  refine hReg (sq 0 (sl 1 (sq 2 (sq 3 sz)))) (by kernel_rfl) ?_
  refine fld fl43_1 rfl rfl rfl ?_
  refine ldl Try.isAgg41 (cB 3 rfl rfl) trv rfl rfl rfl ?_
  refine lenS Try.runUnderlying41 rfl rfl rfl ?_
  refine asI rfl rfl rfl ?_
  refine rNil ?_
  refine qSeq rfl ?_
  refine hSeq ?_
  refine hSeq ?_
  refine hReg (sq 0 (sq 1 sz)) (by kernel_rfl) ?_
  refine mvI rfl rfl rfl ?_
  refine mvI rfl rfl rfl ?_
  refine rNil ?_
  refine qSeq rfl ?_
  refine hBlk ?_
  refine hPieces (fun _ h => Sep.nilR maK 28 2 (fun _ => (none, 0)) h) ?_
  refine hPieces (fun _ h => Sep.nilR maK 28 2 (fun _ => (none, 0)) h) ?_
  refine hLoop (α := Nat × Nat × (Hd × (Nat → Hd)) × (Hd × (Nat → Hd))) (fun x => x.1 ≤ nws ∧ x.2.1 = x.1) (fun x => nws - x.1) (fun x => [OwnR maK 28 2 x.2.2.2.1.1 x.2.1 x.2.2.2.1.2 x.2.2.2.2 (Math.mirVs vs nws x.1), OwnR maK 28 2 x.2.2.1.1.1 x.2.1 x.2.2.1.1.2 x.2.2.1.2 (Math.mirWs ws nws x.1), blk bka4 43 [.slice ay1 ny1 cy1, .slice x.2.2.1.1.1 x.2.1 x.2.2.1.1.2, .slice x.2.2.2.1.1 x.2.1 x.2.2.2.1.2], OwnR ndK 88 2 ay1 ny1 cy1 Hy1 (z.map Math.mirN), blk bka2 43 [.slice none 0 0, .slice none 0 0, .slice none 0 0], blk bkb1 43 [.slice az nz cz, .slice aws nws cws, .slice avs nvs cvs]]) (fun x => [(1, .pointer (some ⟨bkb1, 0, none⟩)), (2, .pointer (some ⟨bka2, 0, none⟩)), (3, .pointer (some ⟨bka4, 0, none⟩)), (6, .int .i64 (nws : Int)), (71, .int .i64 (nws : Int)), (72, .int .i64 (x.1 : Int))]) ((0, 0, ((none, 0), (fun _ => (none, 0))), ((none, 0), (fun _ => (none, 0))))) ⟨Nat.zero_le _, rfl⟩ (fun _ h => h.pick [0, 0, 0, 0, 0, 0]) ⟨rfl, rfl, rfl, rfl, rfl, rfl, trivial⟩ ?_
  rintro ⟨i, q, hd, he⟩ τ2 ⟨hi, hq⟩
  dsimp only at hi hq
  refine hRe [(1, .pointer (some ⟨bkb1, 0, none⟩)), (2, .pointer (some ⟨bka2, 0, none⟩)), (3, .pointer (some ⟨bka4, 0, none⟩)), (6, .int .i64 (nws : Int)), (71, .int .i64 (nws : Int)), (72, .int .i64 (i : Int))] [OwnR maK 28 2 he.1.1 q he.1.2 he.2 (Math.mirVs vs nws i), OwnR maK 28 2 hd.1.1 q hd.1.2 hd.2 (Math.mirWs ws nws i), blk bka4 43 [.slice ay1 ny1 cy1, .slice hd.1.1 q hd.1.2, .slice he.1.1 q he.1.2], OwnR ndK 88 2 ay1 ny1 cy1 Hy1 (z.map Math.mirN), blk bka2 43 [.slice none 0 0, .slice none 0 0, .slice none 0 0], blk bkb1 43 [.slice az nz cz, .slice aws nws cws, .slice avs nvs cvs]] rfl rfl ?_
  refine hSeq ?_
  refine hReg (sq 0 sz) (by kernel_rfl) ?_
  refine lss rfl rfl rfl rfl ?_
  refine rNil ?_
  refine qSeq rfl ?_
  refine hSeq ?_
  refine hIfD rfl (fun c8 => ?_) (fun c8 => ?_)
  ·
   replace c8 : (i : Int) < (nws : Int) := c8
   refine hSkip ?_
   refine qSeq rfl ?_
   refine hSeq ?_
   refine hBlk ?_
   refine hSeq ?_
   refine hReg (sq 0 (sq 1 sz)) (by kernel_rfl) ?_
   refine mvI rfl rfl rfl ?_
   refine asI rfl rfl rfl ?_
   refine rNil ?_
   refine qSeq rfl ?_
   refine hSeq ?_
   refine hDraw (Ls := []) (by kernel_rfl) (sq 0 (sq 2 (.alt (sl 1 (sq 4 (sl 3 (sq 5 sz)))) (sl 3 (sl 1 (sq 4 (sq 5 sz))))))) (by kernel_rfl) (.cons _ (.cons _ (.cons _ (.cons _ (.cons _ (.cons _ .slnil)))))) ?_
   refine mvI rfl rfl rfl ?_
   refine mvI rfl rfl rfl ?_
   refine rAlt ?_ ?_
   ·
    refine mksI nws mk28 (fun _ _ h => h.pick []) rfl rfl rfl rfl (rfl) (by omega) (fun bkm7 hbkm7 => ?_)
    refine asS rfl rfl rfl ?_
    refine mksI nws mk28 (fun _ _ h => h.pick []) rfl rfl rfl rfl (rfl) (by omega) (fun bkm8 hbkm8 => ?_)
    refine asS rfl rfl rfl ?_
    refine rNil ?_
    refine qSeq rfl ?_
    refine hSeq ?_
    refine hSeq ?_
    refine hReg (sq 0 (sq 1 sz)) (by kernel_rfl) ?_
    refine mvI rfl rfl rfl ?_
    refine mvI rfl rfl rfl ?_
    refine rNil ?_
    refine qSeq rfl ?_
    refine hBlk ?_
    refine hLoop (α := Nat) (fun j => j ≤ nws) (fun j => nws - j) (fun j => [OwnI 2 (some ⟨bkm8, 0, none⟩) nws nws (((Math.mapR (Math.mirVc vs i) nws).take j ++ List.replicate (nws - j) 0)), OwnI 2 (some ⟨bkm7, 0, none⟩) nws nws (((Math.mapR (Math.mirWc ws i) nws).take j ++ List.replicate (nws - j) 0)), OwnR maK 28 2 he.1.1 q he.1.2 he.2 (Math.mirVs vs nws i), OwnR maK 28 2 hd.1.1 q hd.1.2 hd.2 (Math.mirWs ws nws i), blk bka4 43 [.slice ay1 ny1 cy1, .slice hd.1.1 q hd.1.2, .slice he.1.1 q he.1.2], OwnR ndK 88 2 ay1 ny1 cy1 Hy1 (z.map Math.mirN), blk bka2 43 [.slice none 0 0, .slice none 0 0, .slice none 0 0], blk bkb1 43 [.slice az nz cz, .slice aws nws cws, .slice avs nvs cvs]]) (fun j => [(1, .pointer (some ⟨bkb1, 0, none⟩)), (2, .pointer (some ⟨bka2, 0, none⟩)), (3, .pointer (some ⟨bka4, 0, none⟩)), (6, .int .i64 (nws : Int)), (7, .int .i64 (i : Int)), (8, .slice (some ⟨bkm7, 0, none⟩) nws nws), (9, .slice (some ⟨bkm8, 0, none⟩) nws nws), (71, .int .i64 (nws : Int)), (72, .int .i64 (i : Int)), (79, .int .i64 (nws : Int)), (80, .int .i64 (j : Int))]) 0 (Nat.zero_le _) (fun _ h => (by simp only [List.take_zero, List.nil_append, Nat.sub_zero]; exact h.pick [0, 0, 0, 0, 0, 0, 0, 0])) ⟨rfl, rfl, rfl, rfl, rfl, rfl, rfl, rfl, rfl, rfl, rfl, trivial⟩ ?_
    rintro j τ3 hj
    refine hSeq ?_
    refine hReg (sq 0 sz) (by kernel_rfl) ?_
    refine lss rfl rfl rfl rfl ?_
    refine rNil ?_
    refine qSeq rfl ?_
    refine hSeq ?_
    refine hIfD rfl (fun c9 => ?_) (fun c9 => ?_)
    ·
     replace c9 : (j : Int) < (nws : Int) := c9
     have hw1 := Math.row_len (Math.mat_row hG.2.2.1 (show j < nws by omega))
     have hv1 := Math.row_len (Math.mat_row hG.2.2.2.1 (show j < nws by omega))
     have hvr := Math.row_at (Math.mat_row hG.2.2.2.1 (show j < nws by omega)) (show i < nws by omega)
     refine hSkip ?_
     refine qSeq rfl ?_
     refine hSeq ?_
     refine hBlk ?_
     refine hSeq ?_
     refine hReg (sq 0 (sq 1 sz)) (by kernel_rfl) ?_
     refine mvI rfl rfl rfl ?_
     refine asI rfl rfl rfl ?_
     refine rNil ?_
     refine qSeq rfl ?_
     refine hDraw (Ls := [blk bkb1 43 [.slice az nz cz, .slice aws nws cws, .slice avs nvs cvs]]) (by kernel_rfl) (sq 0 (sq 1 (sq 2 (sq 3 (sq 4 (sq 5 (sq 6 (sq 7 (sq 8 (sq 9 (sq 10 (sq 11 (sq 12 (sq 13 (sq 14 (sq 15 (sq 16 (sq 17 (sq 18 (sq 19 (sq 20 (sq 21 (sl 22 (sq 23 (sf 24 sz))))))))))))))))))))))))) (by kernel_rfl) (.cons _ (.cons _ (.cons _ (.cons _ (.cons _ (.cons _ (.cons _ (.cons_cons _ .slnil)))))))) ?_
     refine mvS rfl rfl rfl ?_
     refine mvI rfl rfl rfl ?_
     refine mvS rfl rfl rfl ?_
     refine mvI rfl rfl rfl ?_
     refine fld fl43_1 rfl rfl rfl ?_
     refine ldq Try.isAgg41 (cB 0 rfl rfl) rfl rfl rfl ?_
     refine mvI rfl rfl rfl ?_
     refine ixRq (zn := j) (ws.getD j []) el41 (Kn.drop (k := 1) kws) (fun _ h => h.pick [7]) rfl rfl rfl rfl (by omega) (by omega) rfl (nth [] (by omega)) ?_
     intro be3 oe3 e3
     refine ldq Try.isAgg28 (Kn.fld e3 0 rfl) rfl rfl rfl ?_
     refine mvI rfl rfl rfl ?_
     refine ixIq (zn := i) el28 (Kn.drop (k := 1) ((Kn.imp kws fun _ h => h.kidM (nth [] (by omega))))) (fun _ h => h.pick [7]) rfl rfl rfl rfl (by omega) (by omega) rfl ?_
     intro ae4 e4
     refine ldq Try.isAgg2 (e4) rfl rfl rfl ?_
     refine fld fl43_2 rfl rfl rfl ?_
     refine ldq Try.isAgg41 (cB 0 rfl rfl) rfl rfl rfl ?_
     refine mvI rfl rfl rfl ?_
     refine ixRq (zn := j) (vs.getD j []) el41 (Kn.drop (k := 1) kvs) (fun _ h => h.pick [7]) rfl rfl rfl rfl (by omega) (by omega) rfl (nth [] (by omega)) ?_
     intro be5 oe5 e5
     refine ldq Try.isAgg28 (Kn.fld e5 0 rfl) rfl rfl rfl ?_
     refine mvI rfl rfl rfl ?_
     refine ixIq (zn := i) el28 (Kn.drop (k := 1) ((Kn.imp kvs fun _ h => h.kidM (nth [] (by omega))))) (fun _ h => h.pick [7]) rfl rfl rfl rfl (by omega) (by omega) rfl ?_
     intro ae6 e6
     refine ldq Try.isAgg2 (e6) rfl rfl rfl ?_
     refine neg rfl rfl rfl (by omega) ?_
     refine oxI (zn := j) 1 rfl el28 rfl rfl rfl rfl (by omega) (by omega) rfl ?_
     intro gk7 hgk7
     refine stoI (off := j) (x := ((ws.getD j []).getD i 0)) 1 rfl hgk7 Try.sizeOf2 (fun _ h => h.pick [7]) rfl rfl rfl rfl (by omega) ?_
     refine oxI (zn := j) 0 rfl el28 rfl rfl rfl rfl (by omega) (by omega) rfl ?_
     intro gk8 hgk8
     refine stoIF (off := j) (x := (-((vs.getD j []).getD i 0))) 0 rfl hgk8 Try.sizeOf2 rfl rfl rfl rfl (by omega) ?_
     refine rNil ?_
     refine qSeq rfl ?_
     refine hReg (sq 0 (sq 1 sz)) (by kernel_rfl) ?_
     refine add rfl rfl rfl rfl (by omega) ?_
     refine mvI rfl rfl rfl ?_
     refine rNil ?_
     rw [Math.fill_put 0 0 ((ws.getD j []).getD i 0) (Math.mapR_len (Math.mirWc ws i) nws) (by omega) (Math.mapR_get _ 0 (by omega)), Math.fill_put 0 0 (-(vs.getD j []).getD i 0) (Math.mapR_len (Math.mirVc vs i) nws) (by omega) (Math.mapR_get _ 0 (by omega))]
     exact qNext rfl (j + 1) (by omega) (by omega) ⟨rfl, rfl, rfl, rfl, rfl, rfl, rfl, rfl, rfl, rfl, rfl, trivial⟩ (fun _ h => h.pick [0, 0, 0, 0, 0, 0, 0, 0])
    ·
     replace c9 : ¬ ((j : Int) < (nws : Int)) := c9
     rw [Math.fill_end 0 (Math.mapR_len (Math.mirWc ws i) nws) (by omega)]
     rw [Math.fill_end 0 (Math.mapR_len (Math.mirVc vs i) nws) (by omega)]
     refine hExit rfl ?_
     refine qSeq rfl ?_
     refine hDraw (Ls := []) (by kernel_rfl) (sq 0 (sq 2 (sq 5 (sq 7 (.alt (sl 1 (.alt (sl 3 (.alt (sl 4 (.alt (sl 6 (sq 10 (sl 8 (sl 9 (sl 11 (sq 12 (sf 13 sz))))))) (sl 8 (sl 6 (sq 10 (sl 9 (sl 11 (sq 12 (sf 13 sz))))))))) (.alt (sl 6 (.alt (sl 4 (sq 10 (sl 8 (sl 9 (sl 11 (sq 12 (sf 13 sz))))))) (sl 8 (sl 4 (sq 10 (sl 9 (sl 11 (sq 12 (sf 13 sz))))))))) (sl 8 (.alt (sl 4 (sl 6 (sq 10 (sl 9 (sl 11 (sq 12 (sf 13 sz))))))) (sl 6 (sl 4 (sq 10 (sl 9 (sl 11 (sq 12 (sf 13 sz)))))))))))) (.alt (sl 6 (.alt (sl 3 (.alt (sl 4 (sq 10 (sl 8 (sl 9 (sl 11 (sq 12 (sf 13 sz))))))) (sl 8 (sl 4 (sq 10 (sl 9 (sl 11 (sq 12 (sf 13 sz))))))))) (sl 8 (sl 3 (sl 4 (sq 10 (sl 9 (sl 11 (sq 12 (sf 13 sz)))))))))) (sl 8 (.alt (sl 3 (.alt (sl 4 (sl 6 (sq 10 (sl 9 (sl 11 (sq 12 (sf 13 sz))))))) (sl 6 (sl 4 (sq 10 (sl 9 (sl 11 (sq 12 (sf 13 sz))))))))) (sl 6 (sl 3 (sl 4 (sq 10 (sl 9 (sl 11 (sq 12 (sf 13 sz))))))))))))) (.alt (sl 3 (.alt (sl 1 (.alt (sl 4 (.alt (sl 6 (sq 10 (sl 8 (sl 9 (sl 11 (sq 12 (sf 13 sz))))))) (sl 8 (sl 6 (sq 10 (sl 9 (sl 11 (sq 12 (sf 13 sz))))))))) (.alt (sl 6 (.alt (sl 4 (sq 10 (sl 8 (sl 9 (sl 11 (sq 12 (sf 13 sz))))))) (sl 8 (sl 4 (sq 10 (sl 9 (sl 11 (sq 12 (sf 13 sz))))))))) (sl 8 (.alt (sl 4 (sl 6 (sq 10 (sl 9 (sl 11 (sq 12 (sf 13 sz))))))) (sl 6 (sl 4 (sq 10 (sl 9 (sl 11 (sq 12 (sf 13 sz)))))))))))) (.alt (sl 6 (.alt (sl 1 (.alt (sl 4 (sq 10 (sl 8 (sl 9 (sl 11 (sq 12 (sf 13 sz))))))) (sl 8 (sl 4 (sq 10 (sl 9 (sl 11 (sq 12 (sf 13 sz))))))))) (sl 8 (sl 1 (sl 4 (sq 10 (sl 9 (sl 11 (sq 12 (sf 13 sz)))))))))) (sl 8 (.alt (sl 1 (.alt (sl 4 (sl 6 (sq 10 (sl 9 (sl 11 (sq 12 (sf 13 sz))))))) (sl 6 (sl 4 (sq 10 (sl 9 (sl 11 (sq 12 (sf 13 sz))))))))) (sl 6 (sl 1 (sl 4 (sq 10 (sl 9 (sl 11 (sq 12 (sf 13 sz))))))))))))) (.alt (sl 6 (.alt (sl 1 (.alt (sl 3 (.alt (sl 4 (sq 10 (sl 8 (sl 9 (sl 11 (sq 12 (sf 13 sz))))))) (sl 8 (sl 4 (sq 10 (sl 9 (sl 11 (sq 12 (sf 13 sz))))))))) (sl 8 (sl 3 (sl 4 (sq 10 (sl 9 (sl 11 (sq 12 (sf 13 sz)))))))))) (.alt (sl 3 (.alt (sl 1 (.alt (sl 4 (sq 10 (sl 8 (sl 9 (sl 11 (sq 12 (sf 13 sz))))))) (sl 8 (sl 4 (sq 10 (sl 9 (sl 11 (sq 12 (sf 13 sz))))))))) (sl 8 (sl 1 (sl 4 (sq 10 (sl 9 (sl 11 (sq 12 (sf 13 sz)))))))))) (sl 8 (.alt (sl 1 (sl 3 (sl 4 (sq 10 (sl 9 (sl 11 (sq 12 (sf 13 sz)))))))) (sl 3 (sl 1 (sl 4 (sq 10 (sl 9 (sl 11 (sq 12 (sf 13 sz))))))))))))) (sl 8 (.alt (sl 1 (.alt (sl 3 (.alt (sl 4 (sl 6 (sq 10 (sl 9 (sl 11 (sq 12 (sf 13 sz))))))) (sl 6 (sl 4 (sq 10 (sl 9 (sl 11 (sq 12 (sf 13 sz))))))))) (sl 6 (sl 3 (sl 4 (sq 10 (sl 9 (sl 11 (sq 12 (sf 13 sz)))))))))) (.alt (sl 3 (.alt (sl 1 (.alt (sl 4 (sl 6 (sq 10 (sl 9 (sl 11 (sq 12 (sf 13 sz))))))) (sl 6 (sl 4 (sq 10 (sl 9 (sl 11 (sq 12 (sf 13 sz))))))))) (sl 6 (sl 1 (sl 4 (sq 10 (sl 9 (sl 11 (sq 12 (sf 13 sz)))))))))) (sl 6 (.alt (sl 1 (sl 3 (sl 4 (sq 10 (sl 9 (sl 11 (sq 12 (sf 13 sz)))))))) (sl 3 (sl 1 (sl 4 (sq 10 (sl 9 (sl 11 (sq 12 (sf 13 sz)))))))))))))))))))) (by kernel_rfl) (.cons _ (.cons _ (.cons _ (.cons _ (.cons _ (.cons _ (.cons _ (.cons _ .slnil)))))))) ?_
     refine fld fl43_1 rfl rfl rfl ?_
     refine mvS rfl rfl rfl ?_
     refine fld fl43_2 rfl rfl rfl ?_
     refine mvS rfl rfl rfl ?_
     refine rAlt ?_ ?_
     ·
      refine ldl Try.isAgg41 (cB 4 rfl rfl) (fun _ h => h.pick []) rfl rfl rfl ?_
      refine rAlt ?_ ?_
      ·
       refine bsl (fun _ _ h => h.pick []) rfl rfl rfl (bsl41_1 (.slice _ _ _) rfl) (fun bkl9 hbkl9 => ?_)
       refine rAlt ?_ ?_
       ·
        refine apR (hd := ((some ⟨bkm7, 0, none⟩), nws)) (x := (Math.mapR (Math.mirWc ws i) nws)) 4 2 0 maK.ok rfl rfl rfl (fun h => by first | rfl | (dsimp only at h; rw [h]; rfl) | (rw [h]; rfl) | exact congrArg (fun m => [Value.slice _ m _]) h) mk41 (fun _ _ h => h.pick []) rfl rfl rfl rfl (by omega) ?_
        intro aq9 cq9
        refine rAlt ?_ ?_
        ·
         refine ldl Try.isAgg41 (cB 4 rfl rfl) (fun _ h => h.pick []) rfl rfl rfl ?_
         refine fld fl43_1 rfl rfl rfl ?_
         refine bsl (fun _ _ h => h.pick []) rfl rfl rfl (bsl41_1 (.slice _ _ _) rfl) (fun bkl10 hbkl10 => ?_)
         refine apR (hd := ((some ⟨bkm8, 0, none⟩), nws)) (x := (Math.mapR (Math.mirVc vs i) nws)) 4 3 0 maK.ok rfl rfl rfl (fun h => by first | rfl | (dsimp only at h; rw [h]; rfl) | (rw [h]; rfl) | exact congrArg (fun m => [Value.slice _ m _]) h) mk41 (fun _ _ h => h.pick []) rfl rfl rfl rfl (by omega) ?_
         intro aq10 cq10
         refine stl (v := .slice _ _ _) 4 rfl Try.sizeOf41 (fun _ h => h.pick []) rfl rfl rfl rfl rfl (Nat.le_of_ble_eq_true rfl) ?_
         refine fld fl43_2 rfl rfl rfl ?_
         refine stf (v := .slice _ _ _) 4 rfl Try.sizeOf41 rfl rfl rfl rfl rfl (Nat.le_of_ble_eq_true rfl) ?_
         refine rNil ?_
         refine qSeq rfl ?_
         refine hReg (sq 0 (sq 1 sz)) (by kernel_rfl) ?_
         refine add rfl rfl rfl rfl (by omega) ?_
         refine mvI rfl rfl rfl ?_
         refine rNil ?_
         rw [Math.mirWs_snoc ws rfl, Math.mirVs_snoc vs rfl]
         exact qNext rfl ((i + 1, q + 1, ((aq9, cq9), (hset hd.2 (Math.mirWs ws nws i).length ((some ⟨bkm7, 0, none⟩), nws))), ((aq10, cq10), (hset he.2 (Math.mirVs vs nws i).length ((some ⟨bkm8, 0, none⟩), nws))))) (by dsimp only; omega) ⟨by dsimp only; omega, by dsimp only; omega⟩ ⟨rfl, rfl, rfl, rfl, rfl, rfl, trivial⟩ (fun _ h => h.pick [0, 1, 2, 2, 2, 2])
        ·
         refine bsl (fun _ _ h => h.pick []) rfl rfl rfl (bsl41_1 (.slice _ _ _) rfl) (fun bkl11 hbkl11 => ?_)
         refine ldl Try.isAgg41 (cB 5 rfl rfl) (fun _ h => h.pick []) rfl rfl rfl ?_
         refine fld fl43_1 rfl rfl rfl ?_
         refine apR (hd := ((some ⟨bkm8, 0, none⟩), nws)) (x := (Math.mapR (Math.mirVc vs i) nws)) 4 3 0 maK.ok rfl rfl rfl (fun h => by first | rfl | (dsimp only at h; rw [h]; rfl) | (rw [h]; rfl) | exact congrArg (fun m => [Value.slice _ m _]) h) mk41 (fun _ _ h => h.pick []) rfl rfl rfl rfl (by omega) ?_
         intro aq11 cq11
         refine stl (v := .slice _ _ _) 4 rfl Try.sizeOf41 (fun _ h => h.pick []) rfl rfl rfl rfl rfl (Nat.le_of_ble_eq_true rfl) ?_
         refine fld fl43_2 rfl rfl rfl ?_
         refine stf (v := .slice _ _ _) 4 rfl Try.sizeOf41 rfl rfl rfl rfl rfl (Nat.le_of_ble_eq_true rfl) ?_
         refine rNil ?_
         refine qSeq rfl ?_
         refine hReg (sq 0 (sq 1 sz)) (by kernel_rfl) ?_
         refine add rfl rfl rfl rfl (by omega) ?_
         refine mvI rfl rfl rfl ?_
         refine rNil ?_
         rw [Math.mirWs_snoc ws rfl, Math.mirVs_snoc vs rfl]
         exact qNext rfl ((i + 1, q + 1, ((aq9, cq9), (hset hd.2 (Math.mirWs ws nws i).length ((some ⟨bkm7, 0, none⟩), nws))), ((aq11, cq11), (hset he.2 (Math.mirVs vs nws i).length ((some ⟨bkm8, 0, none⟩), nws))))) (by dsimp only; omega) ⟨by dsimp only; omega, by dsimp only; omega⟩ ⟨rfl, rfl, rfl, rfl, rfl, rfl, trivial⟩ (fun _ h => h.pick [0, 1, 2, 2, 2, 2])
       ·
        refine rAlt ?_ ?_
        ·
         refine ldl Try.isAgg41 (cB 5 rfl rfl) (fun _ h => h.pick []) rfl rfl rfl ?_
         refine rAlt ?_ ?_
         ·
          refine apR (hd := ((some ⟨bkm7, 0, none⟩), nws)) (x := (Math.mapR (Math.mirWc ws i) nws)) 4 2 0 maK.ok rfl rfl rfl (fun h => by first | rfl | (dsimp only at h; rw [h]; rfl) | (rw [h]; rfl) | exact congrArg (fun m => [Value.slice _ m _]) h) mk41 (fun _ _ h => h.pick []) rfl rfl rfl rfl (by omega) ?_
          intro aq12 cq12
          refine fld fl43_1 rfl rfl rfl ?_
          refine bsl (fun _ _ h => h.pick []) rfl rfl rfl (bsl41_1 (.slice _ _ _) rfl) (fun bkl12 hbkl12 => ?_)
          refine apR (hd := ((some ⟨bkm8, 0, none⟩), nws)) (x := (Math.mapR (Math.mirVc vs i) nws)) 4 3 0 maK.ok rfl rfl rfl (fun h => by first | rfl | (dsimp only at h; rw [h]; rfl) | (rw [h]; rfl) | exact congrArg (fun m => [Value.slice _ m _]) h) mk41 (fun _ _ h => h.pick []) rfl rfl rfl rfl (by omega) ?_
          intro aq13 cq13
          refine stl (v := .slice _ _ _) 4 rfl Try.sizeOf41 (fun _ h => h.pick []) rfl rfl rfl rfl rfl (Nat.le_of_ble_eq_true rfl) ?_
          refine fld fl43_2 rfl rfl rfl ?_
          refine stf (v := .slice _ _ _) 4 rfl Try.sizeOf41 rfl rfl rfl rfl rfl (Nat.le_of_ble_eq_true rfl) ?_
          refine rNil ?_
          refine qSeq rfl ?_
          refine hReg (sq 0 (sq 1 sz)) (by kernel_rfl) ?_
          refine add rfl rfl rfl rfl (by omega) ?_
          refine mvI rfl rfl rfl ?_
          refine rNil ?_
          rw [Math.mirWs_snoc ws rfl, Math.mirVs_snoc vs rfl]
          exact qNext rfl ((i + 1, q + 1, ((aq12, cq12), (hset hd.2 (Math.mirWs ws nws i).length ((some ⟨bkm7, 0, none⟩), nws))), ((aq13, cq13), (hset he.2 (Math.mirVs vs nws i).length ((some ⟨bkm8, 0, none⟩), nws))))) (by dsimp only; omega) ⟨by dsimp only; omega, by dsimp only; omega⟩ ⟨rfl, rfl, rfl, rfl, rfl, rfl, trivial⟩ (fun _ h => h.pick [0, 1, 2, 2, 2, 2])
         ·
          refine bsl (fun _ _ h => h.pick []) rfl rfl rfl (bsl41_1 (.slice _ _ _) rfl) (fun bkl13 hbkl13 => ?_)
          refine apR (hd := ((some ⟨bkm7, 0, none⟩), nws)) (x := (Math.mapR (Math.mirWc ws i) nws)) 5 3 1 maK.ok rfl rfl rfl (fun h => by first | rfl | (dsimp only at h; rw [h]; rfl) | (rw [h]; rfl) | exact congrArg (fun m => [Value.slice _ m _]) h) mk41 (fun _ _ h => h.pick []) rfl rfl rfl rfl (by omega) ?_
          intro aq14 cq14
          refine fld fl43_1 rfl rfl rfl ?_
          refine apR (hd := ((some ⟨bkm8, 0, none⟩), nws)) (x := (Math.mapR (Math.mirVc vs i) nws)) 4 3 1 maK.ok rfl rfl rfl (fun h => by first | rfl | (dsimp only at h; rw [h]; rfl) | (rw [h]; rfl) | exact congrArg (fun m => [Value.slice _ m _]) h) mk41 (fun _ _ h => h.pick []) rfl rfl rfl rfl (by omega) ?_
          intro aq15 cq15
          refine stl (v := .slice _ _ _) 4 rfl Try.sizeOf41 (fun _ h => h.pick []) rfl rfl rfl rfl rfl (Nat.le_of_ble_eq_true rfl) ?_
          refine fld fl43_2 rfl rfl rfl ?_
          refine stf (v := .slice _ _ _) 4 rfl Try.sizeOf41 rfl rfl rfl rfl rfl (Nat.le_of_ble_eq_true rfl) ?_
          refine rNil ?_
          refine qSeq rfl ?_
          refine hReg (sq 0 (sq 1 sz)) (by kernel_rfl) ?_
          refine add rfl rfl rfl rfl (by omega) ?_
          refine mvI rfl rfl rfl ?_
          refine rNil ?_
          rw [Math.mirWs_snoc ws rfl, Math.mirVs_snoc vs rfl]
          exact qNext rfl ((i + 1, q + 1, ((aq14, cq14), (hset hd.2 (Math.mirWs ws nws i).length ((some ⟨bkm7, 0, none⟩), nws))), ((aq15, cq15), (hset he.2 (Math.mirVs vs nws i).length ((some ⟨bkm8, 0, none⟩), nws))))) (by dsimp only; omega) ⟨by dsimp only; omega, by dsimp only; omega⟩ ⟨rfl, rfl, rfl, rfl, rfl, rfl, trivial⟩ (fun _ h => h.pick [0, 0, 2, 2, 2, 2])
        ·
         refine bsl (fun _ _ h => h.pick []) rfl rfl rfl (bsl41_1 (.slice _ _ _) rfl) (fun bkl14 hbkl14 => ?_)
         refine rAlt ?_ ?_
         ·
          refine apR (hd := ((some ⟨bkm7, 0, none⟩), nws)) (x := (Math.mapR (Math.mirWc ws i) nws)) 5 3 1 maK.ok rfl rfl rfl (fun h => by first | rfl | (dsimp only at h; rw [h]; rfl) | (rw [h]; rfl) | exact congrArg (fun m => [Value.slice _ m _]) h) mk41 (fun _ _ h => h.pick []) rfl rfl rfl rfl (by omega) ?_
          intro aq16 cq16
          refine ldl Try.isAgg41 (cB 5 rfl rfl) (fun _ h => h.pick []) rfl rfl rfl ?_
          refine fld fl43_1 rfl rfl rfl ?_
          refine apR (hd := ((some ⟨bkm8, 0, none⟩), nws)) (x := (Math.mapR (Math.mirVc vs i) nws)) 4 3 1 maK.ok rfl rfl rfl (fun h => by first | rfl | (dsimp only at h; rw [h]; rfl) | (rw [h]; rfl) | exact congrArg (fun m => [Value.slice _ m _]) h) mk41 (fun _ _ h => h.pick []) rfl rfl rfl rfl (by omega) ?_
          intro aq17 cq17
          refine stl (v := .slice _ _ _) 4 rfl Try.sizeOf41 (fun _ h => h.pick []) rfl rfl rfl rfl rfl (Nat.le_of_ble_eq_true rfl) ?_
          refine fld fl43_2 rfl rfl rfl ?_
          refine stf (v := .slice _ _ _) 4 rfl Try.sizeOf41 rfl rfl rfl rfl rfl (Nat.le_of_ble_eq_true rfl) ?_
          refine rNil ?_
          refine qSeq rfl ?_
          refine hReg (sq 0 (sq 1 sz)) (by kernel_rfl) ?_
          refine add rfl rfl rfl rfl (by omega) ?_
          refine mvI rfl rfl rfl ?_
          refine rNil ?_
          rw [Math.mirWs_snoc ws rfl, Math.mirVs_snoc vs rfl]
          exact qNext rfl ((i + 1, q + 1, ((aq16, cq16), (hset hd.2 (Math.mirWs ws nws i).length ((some ⟨bkm7, 0, none⟩), nws))), ((aq17, cq17), (hset he.2 (Math.mirVs vs nws i).length ((some ⟨bkm8, 0, none⟩), nws))))) (by dsimp only; omega) ⟨by dsimp only; omega, by dsimp only; omega⟩ ⟨rfl, rfl, rfl, rfl, rfl, rfl, trivial⟩ (fun _ h => h.pick [0, 0, 2, 2, 2, 2])
         ·
          refine ldl Try.isAgg41 (cB 6 rfl rfl) (fun _ h => h.pick []) rfl rfl rfl ?_
          refine apR (hd := ((some ⟨bkm7, 0, none⟩), nws)) (x := (Math.mapR (Math.mirWc ws i) nws)) 5 3 1 maK.ok rfl rfl rfl (fun h => by first | rfl | (dsimp only at h; rw [h]; rfl) | (rw [h]; rfl) | exact congrArg (fun m => [Value.slice _ m _]) h) mk41 (fun _ _ h => h.pick []) rfl rfl rfl rfl (by omega) ?_
          intro aq18 cq18
          refine fld fl43_1 rfl rfl rfl ?_
          refine apR (hd := ((some ⟨bkm8, 0, none⟩), nws)) (x := (Math.mapR (Math.mirVc vs i) nws)) 4 3 1 maK.ok rfl rfl rfl (fun h => by first | rfl | (dsimp only at h; rw [h]; rfl) | (rw [h]; rfl) | exact congrArg (fun m => [Value.slice _ m _]) h) mk41 (fun _ _ h => h.pick []) rfl rfl rfl rfl (by omega) ?_
          intro aq19 cq19
          refine stl (v := .slice _ _ _) 4 rfl Try.sizeOf41 (fun _ h => h.pick []) rfl rfl rfl rfl rfl (Nat.le_of_ble_eq_true rfl) ?_
          refine fld fl43_2 rfl rfl rfl ?_
          refine stf (v := .slice _ _ _) 4 rfl Try.sizeOf41 rfl rfl rfl rfl rfl (Nat.le_of_ble_eq_true rfl) ?_
          refine rNil ?_
          refine qSeq rfl ?_
          refine hReg (sq 0 (sq 1 sz)) (by kernel_rfl) ?_
          refine add rfl rfl rfl rfl (by omega) ?_
          refine mvI rfl rfl rfl ?_
          refine rNil ?_
          rw [Math.mirWs_snoc ws rfl, Math.mirVs_snoc vs rfl]
          exact qNext rfl ((i + 1, q + 1, ((aq18, cq18), (hset hd.2 (Math.mirWs ws nws i).length ((some ⟨bkm7, 0, none⟩), nws))), ((aq19, cq19), (hset he.2 (Math.mirVs vs nws i).length ((some ⟨bkm8, 0, none⟩), nws))))) (by dsimp only; omega) ⟨by dsimp only; omega, by dsimp only; omega⟩ ⟨rfl, rfl, rfl, rfl, rfl, rfl, trivial⟩ (fun _ h => h.pick [0, 0, 2, 2, 2, 2])
      ·
       refine rAlt ?_ ?_
       ·
        refine ldl Try.isAgg41 (cB 4 rfl rfl) (fun _ h => h.pick []) rfl rfl rfl ?_
        refine rAlt ?_ ?_
        ·
         refine bsl (fun _ _ h => h.pick []) rfl rfl rfl (bsl41_1 (.slice _ _ _) rfl) (fun bkl15 hbkl15 => ?_)
         refine rAlt ?_ ?_
         ·
          refine apR (hd := ((some ⟨bkm7, 0, none⟩), nws)) (x := (Math.mapR (Math.mirWc ws i) nws)) 4 2 0 maK.ok rfl rfl rfl (fun h => by first | rfl | (dsimp only at h; rw [h]; rfl) | (rw [h]; rfl) | exact congrArg (fun m => [Value.slice _ m _]) h) mk41 (fun _ _ h => h.pick []) rfl rfl rfl rfl (by omega) ?_
          intro aq20 cq20
          refine fld fl43_1 rfl rfl rfl ?_
          refine bsl (fun _ _ h => h.pick []) rfl rfl rfl (bsl41_1 (.slice _ _ _) rfl) (fun bkl16 hbkl16 => ?_)
          refine apR (hd := ((some ⟨bkm8, 0, none⟩), nws)) (x := (Math.mapR (Math.mirVc vs i) nws)) 4 3 0 maK.ok rfl rfl rfl (fun h => by first | rfl | (dsimp only at h; rw [h]; rfl) | (rw [h]; rfl) | exact congrArg (fun m => [Value.slice _ m _]) h) mk41 (fun _ _ h => h.pick []) rfl rfl rfl rfl (by omega) ?_
          intro aq21 cq21
          refine stl (v := .slice _ _ _) 4 rfl Try.sizeOf41 (fun _ h => h.pick []) rfl rfl rfl rfl rfl (Nat.le_of_ble_eq_true rfl) ?_
          refine fld fl43_2 rfl rfl rfl ?_
          refine stf (v := .slice _ _ _) 4 rfl Try.sizeOf41 rfl rfl rfl rfl rfl (Nat.le_of_ble_eq_true rfl) ?_
          refine rNil ?_
          refine qSeq rfl ?_
          refine hReg (sq 0 (sq 1 sz)) (by kernel_rfl) ?_
          refine add rfl rfl rfl rfl (by omega) ?_
          refine mvI rfl rfl rfl ?_
          refine rNil ?_
          rw [Math.mirWs_snoc ws rfl, Math.mirVs_snoc vs rfl]
          exact qNext rfl ((i + 1, q + 1, ((aq20, cq20), (hset hd.2 (Math.mirWs ws nws i).length ((some ⟨bkm7, 0, none⟩), nws))), ((aq21, cq21), (hset he.2 (Math.mirVs vs nws i).length ((some ⟨bkm8, 0, none⟩), nws))))) (by dsimp only; omega) ⟨by dsimp only; omega, by dsimp only; omega⟩ ⟨rfl, rfl, rfl, rfl, rfl, rfl, trivial⟩ (fun _ h => h.pick [0, 1, 2, 2, 2, 2])
         ·
          refine bsl (fun _ _ h => h.pick []) rfl rfl rfl (bsl41_1 (.slice _ _ _) rfl) (fun bkl17 hbkl17 => ?_)
          refine apR (hd := ((some ⟨bkm7, 0, none⟩), nws)) (x := (Math.mapR (Math.mirWc ws i) nws)) 5 3 1 maK.ok rfl rfl rfl (fun h => by first | rfl | (dsimp only at h; rw [h]; rfl) | (rw [h]; rfl) | exact congrArg (fun m => [Value.slice _ m _]) h) mk41 (fun _ _ h => h.pick []) rfl rfl rfl rfl (by omega) ?_
          intro aq22 cq22
          refine fld fl43_1 rfl rfl rfl ?_
          refine apR (hd := ((some ⟨bkm8, 0, none⟩), nws)) (x := (Math.mapR (Math.mirVc vs i) nws)) 4 3 1 maK.ok rfl rfl rfl (fun h => by first | rfl | (dsimp only at h; rw [h]; rfl) | (rw [h]; rfl) | exact congrArg (fun m => [Value.slice _ m _]) h) mk41 (fun _ _ h => h.pick []) rfl rfl rfl rfl (by omega) ?_
          intro aq23 cq23
          refine stl (v := .slice _ _ _) 4 rfl Try.sizeOf41 (fun _ h => h.pick []) rfl rfl rfl rfl rfl (Nat.le_of_ble_eq_true rfl) ?_
          refine fld fl43_2 rfl rfl rfl ?_
          refine stf (v := .slice _ _ _) 4 rfl Try.sizeOf41 rfl rfl rfl rfl rfl (Nat.le_of_ble_eq_true rfl) ?_
          refine rNil ?_
          refine qSeq rfl ?_
          refine hReg (sq 0 (sq 1 sz)) (by kernel_rfl) ?_
          refine add rfl rfl rfl rfl (by omega) ?_
          refine mvI rfl rfl rfl ?_
          refine rNil ?_
          rw [Math.mirWs_snoc ws rfl, Math.mirVs_snoc vs rfl]
          exact qNext rfl ((i + 1, q + 1, ((aq22, cq22), (hset hd.2 (Math.mirWs ws nws i).length ((some ⟨bkm7, 0, none⟩), nws))), ((aq23, cq23), (hset he.2 (Math.mirVs vs nws i).length ((some ⟨bkm8, 0, none⟩), nws))))) (by dsimp only; omega) ⟨by dsimp only; omega, by dsimp only; omega⟩ ⟨rfl, rfl, rfl, rfl, rfl, rfl, trivial⟩ (fun _ h => h.pick [0, 0, 2, 2, 2, 2])
        ·
         refine bsl (fun _ _ h => h.pick []) rfl rfl rfl (bsl41_1 (.slice _ _ _) rfl) (fun bkl18 hbkl18 => ?_)
         refine bsl (fun _ _ h => h.pick []) rfl rfl rfl (bsl41_1 (.slice _ _ _) rfl) (fun bkl19 hbkl19 => ?_)
         refine apR (hd := ((some ⟨bkm7, 0, none⟩), nws)) (x := (Math.mapR (Math.mirWc ws i) nws)) 5 3 0 maK.ok rfl rfl rfl (fun h => by first | rfl | (dsimp only at h; rw [h]; rfl) | (rw [h]; rfl) | exact congrArg (fun m => [Value.slice _ m _]) h) mk41 (fun _ _ h => h.pick []) rfl rfl rfl rfl (by omega) ?_
         intro aq24 cq24
         refine fld fl43_1 rfl rfl rfl ?_
         refine apR (hd := ((some ⟨bkm8, 0, none⟩), nws)) (x := (Math.mapR (Math.mirVc vs i) nws)) 4 3 2 maK.ok rfl rfl rfl (fun h => by first | rfl | (dsimp only at h; rw [h]; rfl) | (rw [h]; rfl) | exact congrArg (fun m => [Value.slice _ m _]) h) mk41 (fun _ _ h => h.pick []) rfl rfl rfl rfl (by omega) ?_
         intro aq25 cq25
         refine stl (v := .slice _ _ _) 4 rfl Try.sizeOf41 (fun _ h => h.pick []) rfl rfl rfl rfl rfl (Nat.le_of_ble_eq_true rfl) ?_
         refine fld fl43_2 rfl rfl rfl ?_
         refine stf (v := .slice _ _ _) 4 rfl Try.sizeOf41 rfl rfl rfl rfl rfl (Nat.le_of_ble_eq_true rfl) ?_
         refine rNil ?_
         refine qSeq rfl ?_
         refine hReg (sq 0 (sq 1 sz)) (by kernel_rfl) ?_
         refine add rfl rfl rfl rfl (by omega) ?_
         refine mvI rfl rfl rfl ?_
         refine rNil ?_
         rw [Math.mirWs_snoc ws rfl, Math.mirVs_snoc vs rfl]
         exact qNext rfl ((i + 1, q + 1, ((aq24, cq24), (hset hd.2 (Math.mirWs ws nws i).length ((some ⟨bkm7, 0, none⟩), nws))), ((aq25, cq25), (hset he.2 (Math.mirVs vs nws i).length ((some ⟨bkm8, 0, none⟩), nws))))) (by dsimp only; omega) ⟨by dsimp only; omega, by dsimp only; omega⟩ ⟨rfl, rfl, rfl, rfl, rfl, rfl, trivial⟩ (fun _ h => h.pick [0, 0, 2, 2, 2, 2])
       ·
        refine bsl (fun _ _ h => h.pick []) rfl rfl rfl (bsl41_1 (.slice _ _ _) rfl) (fun bkl20 hbkl20 => ?_)
        refine rAlt ?_ ?_
        ·
         refine bsl (fun _ _ h => h.pick []) rfl rfl rfl (bsl41_1 (.slice _ _ _) rfl) (fun bkl21 hbkl21 => ?_)
         refine rAlt ?_ ?_
         ·
          refine apR (hd := ((some ⟨bkm7, 0, none⟩), nws)) (x := (Math.mapR (Math.mirWc ws i) nws)) 5 3 0 maK.ok rfl rfl rfl (fun h => by first | rfl | (dsimp only at h; rw [h]; rfl) | (rw [h]; rfl) | exact congrArg (fun m => [Value.slice _ m _]) h) mk41 (fun _ _ h => h.pick []) rfl rfl rfl rfl (by omega) ?_
          intro aq26 cq26
          refine ldl Try.isAgg41 (cB 5 rfl rfl) (fun _ h => h.pick []) rfl rfl rfl ?_
          refine fld fl43_1 rfl rfl rfl ?_
          refine apR (hd := ((some ⟨bkm8, 0, none⟩), nws)) (x := (Math.mapR (Math.mirVc vs i) nws)) 4 3 2 maK.ok rfl rfl rfl (fun h => by first | rfl | (dsimp only at h; rw [h]; rfl) | (rw [h]; rfl) | exact congrArg (fun m => [Value.slice _ m _]) h) mk41 (fun _ _ h => h.pick []) rfl rfl rfl rfl (by omega) ?_
          intro aq27 cq27
          refine stl (v := .slice _ _ _) 4 rfl Try.sizeOf41 (fun _ h => h.pick []) rfl rfl rfl rfl rfl (Nat.le_of_ble_eq_true rfl) ?_
          refine fld fl43_2 rfl rfl rfl ?_
          refine stf (v := .slice _ _ _) 4 rfl Try.sizeOf41 rfl rfl rfl rfl rfl (Nat.le_of_ble_eq_true rfl) ?_
          refine rNil ?_
          refine qSeq rfl ?_
          refine hReg (sq 0 (sq 1 sz)) (by kernel_rfl) ?_
          refine add rfl rfl rfl rfl (by omega) ?_
          refine mvI rfl rfl rfl ?_
          refine rNil ?_
          rw [Math.mirWs_snoc ws rfl, Math.mirVs_snoc vs rfl]
          exact qNext rfl ((i + 1, q + 1, ((aq26, cq26), (hset hd.2 (Math.mirWs ws nws i).length ((some ⟨bkm7, 0, none⟩), nws))), ((aq27, cq27), (hset he.2 (Math.mirVs vs nws i).length ((some ⟨bkm8, 0, none⟩), nws))))) (by dsimp only; omega) ⟨by dsimp only; omega, by dsimp only; omega⟩ ⟨rfl, rfl, rfl, rfl, rfl, rfl, trivial⟩ (fun _ h => h.pick [0, 0, 2, 2, 2, 2])
         ·
          refine ldl Try.isAgg41 (cB 6 rfl rfl) (fun _ h => h.pick []) rfl rfl rfl ?_
          refine apR (hd := ((some ⟨bkm7, 0, none⟩), nws)) (x := (Math.mapR (Math.mirWc ws i) nws)) 5 3 0 maK.ok rfl rfl rfl (fun h => by first | rfl | (dsimp only at h; rw [h]; rfl) | (rw [h]; rfl) | exact congrArg (fun m => [Value.slice _ m _]) h) mk41 (fun _ _ h => h.pick []) rfl rfl rfl rfl (by omega) ?_
          intro aq28 cq28
          refine fld fl43_1 rfl rfl rfl ?_
          refine apR (hd := ((some ⟨bkm8, 0, none⟩), nws)) (x := (Math.mapR (Math.mirVc vs i) nws)) 4 3 2 maK.ok rfl rfl rfl (fun h => by first | rfl | (dsimp only at h; rw [h]; rfl) | (rw [h]; rfl) | exact congrArg (fun m => [Value.slice _ m _]) h) mk41 (fun _ _ h => h.pick []) rfl rfl rfl rfl (by omega) ?_
          intro aq29 cq29
          refine stl (v := .slice _ _ _) 4 rfl Try.sizeOf41 (fun _ h => h.pick []) rfl rfl rfl rfl rfl (Nat.le_of_ble_eq_true rfl) ?_
          refine fld fl43_2 rfl rfl rfl ?_
          refine stf (v := .slice _ _ _) 4 rfl Try.sizeOf41 rfl rfl rfl rfl rfl (Nat.le_of_ble_eq_true rfl) ?_
          refine rNil ?_
          refine qSeq rfl ?_
          refine hReg (sq 0 (sq 1 sz)) (by kernel_rfl) ?_
          refine add rfl rfl rfl rfl (by omega) ?_
          refine mvI rfl rfl rfl ?_
          refine rNil ?_
          rw [Math.mirWs_snoc ws rfl, Math.mirVs_snoc vs rfl]
          exact qNext rfl ((i + 1, q + 1, ((aq28, cq28), (hset hd.2 (Math.mirWs ws nws i).length ((some ⟨bkm7, 0, none⟩), nws))), ((aq29, cq29), (hset he.2 (Math.mirVs vs nws i).length ((some ⟨bkm8, 0, none⟩), nws))))) (by dsimp only; omega) ⟨by dsimp only; omega, by dsimp only; omega⟩ ⟨rfl, rfl, rfl, rfl, rfl, rfl, trivial⟩ (fun _ h => h.pick [0, 0, 2, 2, 2, 2])
        ·
         refine ldl Try.isAgg41 (cB 5 rfl rfl) (fun _ h => h.pick []) rfl rfl rfl ?_
         refine bsl (fun _ _ h => h.pick []) rfl rfl rfl (bsl41_1 (.slice _ _ _) rfl) (fun bkl22 hbkl22 => ?_)
         refine apR (hd := ((some ⟨bkm7, 0, none⟩), nws)) (x := (Math.mapR (Math.mirWc ws i) nws)) 5 3 0 maK.ok rfl rfl rfl (fun h => by first | rfl | (dsimp only at h; rw [h]; rfl) | (rw [h]; rfl) | exact congrArg (fun m => [Value.slice _ m _]) h) mk41 (fun _ _ h => h.pick []) rfl rfl rfl rfl (by omega) ?_
         intro aq30 cq30
         refine fld fl43_1 rfl rfl rfl ?_
         refine apR (hd := ((some ⟨bkm8, 0, none⟩), nws)) (x := (Math.mapR (Math.mirVc vs i) nws)) 4 3 2 maK.ok rfl rfl rfl (fun h => by first | rfl | (dsimp only at h; rw [h]; rfl) | (rw [h]; rfl) | exact congrArg (fun m => [Value.slice _ m _]) h) mk41 (fun _ _ h => h.pick []) rfl rfl rfl rfl (by omega) ?_
         intro aq31 cq31
         refine stl (v := .slice _ _ _) 4 rfl Try.sizeOf41 (fun _ h => h.pick []) rfl rfl rfl rfl rfl (Nat.le_of_ble_eq_true rfl) ?_
         refine fld fl43_2 rfl rfl rfl ?_
         refine stf (v := .slice _ _ _) 4 rfl Try.sizeOf41 rfl rfl rfl rfl rfl (Nat.le_of_ble_eq_true rfl) ?_
         refine rNil ?_
         refine qSeq rfl ?_
         refine hReg (sq 0 (sq 1 sz)) (by kernel_rfl) ?_
         refine add rfl rfl rfl rfl (by omega) ?_
         refine mvI rfl rfl rfl ?_
         refine rNil ?_
         rw [Math.mirWs_snoc ws rfl, Math.mirVs_snoc vs rfl]
         exact qNext rfl ((i + 1, q + 1, ((aq30, cq30), (hset hd.2 (Math.mirWs ws nws i).length ((some ⟨bkm7, 0, none⟩), nws))), ((aq31, cq31), (hset he.2 (Math.mirVs vs nws i).length ((some ⟨bkm8, 0, none⟩), nws))))) (by dsimp only; omega) ⟨by dsimp only; omega, by dsimp only; omega⟩ ⟨rfl, rfl, rfl, rfl, rfl, rfl, trivial⟩ (fun _ h => h.pick [0, 0, 2, 2, 2, 2])
     ·
      refine rAlt ?_ ?_
      ·
       refine bsl (fun _ _ h => h.pick []) rfl rfl rfl (bsl41_1 (.slice _ _ _) rfl) (fun bkl23 hbkl23 => ?_)
       refine rAlt ?_ ?_
       ·
        refine ldl Try.isAgg41 (cB 5 rfl rfl) (fun _ h => h.pick []) rfl rfl rfl ?_
        refine rAlt ?_ ?_
        ·
         refine apR (hd := ((some ⟨bkm7, 0, none⟩), nws)) (x := (Math.mapR (Math.mirWc ws i) nws)) 4 2 0 maK.ok rfl rfl rfl (fun h => by first | rfl | (dsimp only at h; rw [h]; rfl) | (rw [h]; rfl) | exact congrArg (fun m => [Value.slice _ m _]) h) mk41 (fun _ _ h => h.pick []) rfl rfl rfl rfl (by omega) ?_
         intro aq32 cq32
         refine rAlt ?_ ?_
         ·
          refine ldl Try.isAgg41 (cB 4 rfl rfl) (fun _ h => h.pick []) rfl rfl rfl ?_
          refine fld fl43_1 rfl rfl rfl ?_
          refine bsl (fun _ _ h => h.pick []) rfl rfl rfl (bsl41_1 (.slice _ _ _) rfl) (fun bkl24 hbkl24 => ?_)
          refine apR (hd := ((some ⟨bkm8, 0, none⟩), nws)) (x := (Math.mapR (Math.mirVc vs i) nws)) 4 3 0 maK.ok rfl rfl rfl (fun h => by first | rfl | (dsimp only at h; rw [h]; rfl) | (rw [h]; rfl) | exact congrArg (fun m => [Value.slice _ m _]) h) mk41 (fun _ _ h => h.pick []) rfl rfl rfl rfl (by omega) ?_
          intro aq33 cq33
          refine stl (v := .slice _ _ _) 4 rfl Try.sizeOf41 (fun _ h => h.pick []) rfl rfl rfl rfl rfl (Nat.le_of_ble_eq_true rfl) ?_
          refine fld fl43_2 rfl rfl rfl ?_
          refine stf (v := .slice _ _ _) 4 rfl Try.sizeOf41 rfl rfl rfl rfl rfl (Nat.le_of_ble_eq_true rfl) ?_
          refine rNil ?_
          refine qSeq rfl ?_
          refine hReg (sq 0 (sq 1 sz)) (by kernel_rfl) ?_
          refine add rfl rfl rfl rfl (by omega) ?_
          refine mvI rfl rfl rfl ?_
          refine rNil ?_
          rw [Math.mirWs_snoc ws rfl, Math.mirVs_snoc vs rfl]
          exact qNext rfl ((i + 1, q + 1, ((aq32, cq32), (hset hd.2 (Math.mirWs ws nws i).length ((some ⟨bkm7, 0, none⟩), nws))), ((aq33, cq33), (hset he.2 (Math.mirVs vs nws i).length ((some ⟨bkm8, 0, none⟩), nws))))) (by dsimp only; omega) ⟨by dsimp only; omega, by dsimp only; omega⟩ ⟨rfl, rfl, rfl, rfl, rfl, rfl, trivial⟩ (fun _ h => h.pick [0, 1, 2, 2, 2, 2])
         ·
          refine bsl (fun _ _ h => h.pick []) rfl rfl rfl (bsl41_1 (.slice _ _ _) rfl) (fun bkl25 hbkl25 => ?_)
          refine ldl Try.isAgg41 (cB 5 rfl rfl) (fun _ h => h.pick []) rfl rfl rfl ?_
          refine fld fl43_1 rfl rfl rfl ?_
          refine apR (hd := ((some ⟨bkm8, 0, none⟩), nws)) (x := (Math.mapR (Math.mirVc vs i) nws)) 4 3 0 maK.ok rfl rfl rfl (fun h => by first | rfl | (dsimp only at h; rw [h]; rfl) | (rw [h]; rfl) | exact congrArg (fun m => [Value.slice _ m _]) h) mk41 (fun _ _ h => h.pick []) rfl rfl rfl rfl (by omega) ?_
          intro aq34 cq34
          refine stl (v := .slice _ _ _) 4 rfl Try.sizeOf41 (fun _ h => h.pick []) rfl rfl rfl rfl rfl (Nat.le_of_ble_eq_true rfl) ?_
          refine fld fl43_2 rfl rfl rfl ?_
          refine stf (v := .slice _ _ _) 4 rfl Try.sizeOf41 rfl rfl rfl rfl rfl (Nat.le_of_ble_eq_true rfl) ?_
          refine rNil ?_
          refine qSeq rfl ?_
          refine hReg (sq 0 (sq 1 sz)) (by kernel_rfl) ?_
          refine add rfl rfl rfl rfl (by omega) ?_
          refine mvI rfl rfl rfl ?_
          refine rNil ?_
          rw [Math.mirWs_snoc ws rfl, Math.mirVs_snoc vs rfl]
          exact qNext rfl ((i + 1, q + 1, ((aq32, cq32), (hset hd.2 (Math.mirWs ws nws i).length ((some ⟨bkm7, 0, none⟩), nws))), ((aq34, cq34), (hset he.2 (Math.mirVs vs nws i).length ((some ⟨bkm8, 0, none⟩), nws))))) (by dsimp only; omega) ⟨by dsimp only; omega, by dsimp only; omega⟩ ⟨rfl, rfl, rfl, rfl, rfl, rfl, trivial⟩ (fun _ h => h.pick [0, 1, 2, 2, 2, 2])
        ·
         refine rAlt ?_ ?_
         ·
          refine ldl Try.isAgg41 (cB 5 rfl rfl) (fun _ h => h.pick []) rfl rfl rfl ?_
          refine rAlt ?_ ?_
          ·
           refine apR (hd := ((some ⟨bkm7, 0, none⟩), nws)) (x := (Math.mapR (Math.mirWc ws i) nws)) 4 2 0 maK.ok rfl rfl rfl (fun h => by first | rfl | (dsimp only at h; rw [h]; rfl) | (rw [h]; rfl) | exact congrArg (fun m => [Value.slice _ m _]) h) mk41 (fun _ _ h => h.pick []) rfl rfl rfl rfl (by omega) ?_
           intro aq35 cq35
           refine fld fl43_1 rfl rfl rfl ?_
           refine bsl (fun _ _ h => h.pick []) rfl rfl rfl (bsl41_1 (.slice _ _ _) rfl) (fun bkl26 hbkl26 => ?_)
           refine apR (hd := ((some ⟨bkm8, 0, none⟩), nws)) (x := (Math.mapR (Math.mirVc vs i) nws)) 4 3 0 maK.ok rfl rfl rfl (fun h => by first | rfl | (dsimp only at h; rw [h]; rfl) | (rw [h]; rfl) | exact congrArg (fun m => [Value.slice _ m _]) h) mk41 (fun _ _ h => h.pick []) rfl rfl rfl rfl (by omega) ?_
           intro aq36 cq36
           refine stl (v := .slice _ _ _) 4 rfl Try.sizeOf41 (fun _ h => h.pick []) rfl rfl rfl rfl rfl (Nat.le_of_ble_eq_true rfl) ?_
           refine fld fl43_2 rfl rfl rfl ?_
           refine stf (v := .slice _ _ _) 4 rfl Try.sizeOf41 rfl rfl rfl rfl rfl (Nat.le_of_ble_eq_true rfl) ?_
           refine rNil ?_
           refine qSeq rfl ?_
           refine hReg (sq 0 (sq 1 sz)) (by kernel_rfl) ?_
           refine add rfl rfl rfl rfl (by omega) ?_
           refine mvI rfl rfl rfl ?_
           refine rNil ?_
           rw [Math.mirWs_snoc ws rfl, Math.mirVs_snoc vs rfl]
           exact qNext rfl ((i + 1, q + 1, ((aq35, cq35), (hset hd.2 (Math.mirWs ws nws i).length ((some ⟨bkm7, 0, none⟩), nws))), ((aq36, cq36), (hset he.2 (Math.mirVs vs nws i).length ((some ⟨bkm8, 0, none⟩), nws))))) (by dsimp only; omega) ⟨by dsimp only; omega, by dsimp only; omega⟩ ⟨rfl, rfl, rfl, rfl, rfl, rfl, trivial⟩ (fun _ h => h.pick [0, 1, 2, 2, 2, 2])
          ·
           refine bsl (fun _ _ h => h.pick []) rfl rfl rfl (bsl41_1 (.slice _ _ _) rfl) (fun bkl27 hbkl27 => ?_)
           refine apR (hd := ((some ⟨bkm7, 0, none⟩), nws)) (x := (Math.mapR (Math.mirWc ws i) nws)) 5 3 1 maK.ok rfl rfl rfl (fun h => by first | rfl | (dsimp only at h; rw [h]; rfl) | (rw [h]; rfl) | exact congrArg (fun m => [Value.slice _ m _]) h) mk41 (fun _ _ h => h.pick []) rfl rfl rfl rfl (by omega) ?_
           intro aq37 cq37
           refine fld fl43_1 rfl rfl rfl ?_
           refine apR (hd := ((some ⟨bkm8, 0, none⟩), nws)) (x := (Math.mapR (Math.mirVc vs i) nws)) 4 3 1 maK.ok rfl rfl rfl (fun h => by first | rfl | (dsimp only at h; rw [h]; rfl) | (rw [h]; rfl) | exact congrArg (fun m => [Value.slice _ m _]) h) mk41 (fun _ _ h => h.pick []) rfl rfl rfl rfl (by omega) ?_
           intro aq38 cq38
           refine stl (v := .slice _ _ _) 4 rfl Try.sizeOf41 (fun _ h => h.pick []) rfl rfl rfl rfl rfl (Nat.le_of_ble_eq_true rfl) ?_
           refine fld fl43_2 rfl rfl rfl ?_
           refine stf (v := .slice _ _ _) 4 rfl Try.sizeOf41 rfl rfl rfl rfl rfl (Nat.le_of_ble_eq_true rfl) ?_
           refine rNil ?_
           refine qSeq rfl ?_
           refine hReg (sq 0 (sq 1 sz)) (by kernel_rfl) ?_
           refine add rfl rfl rfl rfl (by omega) ?_
           refine mvI rfl rfl rfl ?_
           refine rNil ?_
           rw [Math.mirWs_snoc ws rfl, Math.mirVs_snoc vs rfl]
           exact qNext rfl ((i + 1, q + 1, ((aq37, cq37), (hset hd.2 (Math.mirWs ws nws i).length ((some ⟨bkm7, 0, none⟩), nws))), ((aq38, cq38), (hset he.2 (Math.mirVs vs nws i).length ((some ⟨bkm8, 0, none⟩), nws))))) (by dsimp only; omega) ⟨by dsimp only; omega, by dsimp only; omega⟩ ⟨rfl, rfl, rfl, rfl, rfl, rfl, trivial⟩ (fun _ h => h.pick [0, 0, 2, 2, 2, 2])
         ·
          refine bsl (fun _ _ h => h.pick []) rfl rfl rfl (bsl41_1 (.slice _ _ _) rfl) (fun bkl28 hbkl28 => ?_)
          refine rAlt ?_ ?_
          ·
           refine apR (hd := ((some ⟨bkm7, 0, none⟩), nws)) (x := (Math.mapR (Math.mirWc ws i) nws)) 5 3 1 maK.ok rfl rfl rfl (fun h => by first | rfl | (dsimp only at h; rw [h]; rfl) | (rw [h]; rfl) | exact congrArg (fun m => [Value.slice _ m _]) h) mk41 (fun _ _ h => h.pick []) rfl rfl rfl rfl (by omega) ?_
           intro aq39 cq39
           refine ldl Try.isAgg41 (cB 5 rfl rfl) (fun _ h => h.pick []) rfl rfl rfl ?_
           refine fld fl43_1 rfl rfl rfl ?_
           refine apR (hd := ((some ⟨bkm8, 0, none⟩), nws)) (x := (Math.mapR (Math.mirVc vs i) nws)) 4 3 1 maK.ok rfl rfl rfl (fun h => by first | rfl | (dsimp only at h; rw [h]; rfl) | (rw [h]; rfl) | exact congrArg (fun m => [Value.slice _ m _]) h) mk41 (fun _ _ h => h.pick []) rfl rfl rfl rfl (by omega) ?_
           intro aq40 cq40
           refine stl (v := .slice _ _ _) 4 rfl Try.sizeOf41 (fun _ h => h.pick []) rfl rfl rfl rfl rfl (Nat.le_of_ble_eq_true rfl) ?_
           refine fld fl43_2 rfl rfl rfl ?_
           refine stf (v := .slice _ _ _) 4 rfl Try.sizeOf41 rfl rfl rfl rfl rfl (Nat.le_of_ble_eq_true rfl) ?_
           refine rNil ?_
           refine qSeq rfl ?_
           refine hReg (sq 0 (sq 1 sz)) (by kernel_rfl) ?_
           refine add rfl rfl rfl rfl (by omega) ?_
           refine mvI rfl rfl rfl ?_
           refine rNil ?_
           rw [Math.mirWs_snoc ws rfl, Math.mirVs_snoc vs rfl]
           exact qNext rfl ((i + 1, q + 1, ((aq39, cq39), (hset hd.2 (Math.mirWs ws nws i).length ((some ⟨bkm7, 0, none⟩), nws))), ((aq40, cq40), (hset he.2 (Math.mirVs vs nws i).length ((some ⟨bkm8, 0, none⟩), nws))))) (by dsimp only; omega) ⟨by dsimp only; omega, by dsimp only; omega⟩ ⟨rfl, rfl, rfl, rfl, rfl, rfl, trivial⟩ (fun _ h => h.pick [0, 0, 2, 2, 2, 2])
          ·
           refine ldl Try.isAgg41 (cB 6 rfl rfl) (fun _ h => h.pick []) rfl rfl rfl ?_
           refine apR (hd := ((some ⟨bkm7, 0, none⟩), nws)) (x := (Math.mapR (Math.mirWc ws i) nws)) 5 3 1 maK.ok rfl rfl rfl (fun h => by first | rfl | (dsimp only at h; rw [h]; rfl) | (rw [h]; rfl) | exact congrArg (fun m => [Value.slice _ m _]) h) mk41 (fun _ _ h => h.pick []) rfl rfl rfl rfl (by omega) ?_
           intro aq41 cq41
           refine fld fl43_1 rfl rfl rfl ?_
           refine apR (hd := ((some ⟨bkm8, 0, none⟩), nws)) (x := (Math.mapR (Math.mirVc vs i) nws)) 4 3 1 maK.ok rfl rfl rfl (fun h => by first | rfl | (dsimp only at h; rw [h]; rfl) | (rw [h]; rfl) | exact congrArg (fun m => [Value.slice _ m _]) h) mk41 (fun _ _ h => h.pick []) rfl rfl rfl rfl (by omega) ?_
           intro aq42 cq42
           refine stl (v := .slice _ _ _) 4 rfl Try.sizeOf41 (fun _ h => h.pick []) rfl rfl rfl rfl rfl (Nat.le_of_ble_eq_true rfl) ?_
           refine fld fl43_2 rfl rfl rfl ?_
           refine stf (v := .slice _ _ _) 4 rfl Try.sizeOf41 rfl rfl rfl rfl rfl (Nat.le_of_ble_eq_true rfl) ?_
           refine rNil ?_
           refine qSeq rfl ?_
           refine hReg (sq 0 (sq 1 sz)) (by kernel_rfl) ?_
           refine add rfl rfl rfl rfl (by omega) ?_
           refine mvI rfl rfl rfl ?_
           refine rNil ?_
           rw [Math.mirWs_snoc ws rfl, Math.mirVs_snoc vs rfl]
           exact qNext rfl ((i + 1, q + 1, ((aq41, cq41), (hset hd.2 (Math.mirWs ws nws i).length ((some ⟨bkm7, 0, none⟩), nws))), ((aq42, cq42), (hset he.2 (Math.mirVs vs nws i).length ((some ⟨bkm8, 0, none⟩), nws))))) (by dsimp only; omega) ⟨by dsimp only; omega, by dsimp only; omega⟩ ⟨rfl, rfl, rfl, rfl, rfl, rfl, trivial⟩ (fun _ h => h.pick [0, 0, 2, 2, 2, 2])
       ·
        refine rAlt ?_ ?_
        ·
         refine ldl Try.isAgg41 (cB 5 rfl rfl) (fun _ h => h.pick []) rfl rfl rfl ?_
         refine rAlt ?_ ?_
         ·
          refine ldl Try.isAgg41 (cB 5 rfl rfl) (fun _ h => h.pick []) rfl rfl rfl ?_
          refine rAlt ?_ ?_
          ·
           refine apR (hd := ((some ⟨bkm7, 0, none⟩), nws)) (x := (Math.mapR (Math.mirWc ws i) nws)) 4 2 0 maK.ok rfl rfl rfl (fun h => by first | rfl | (dsimp only at h; rw [h]; rfl) | (rw [h]; rfl) | exact congrArg (fun m => [Value.slice _ m _]) h) mk41 (fun _ _ h => h.pick []) rfl rfl rfl rfl (by omega) ?_
           intro aq43 cq43
           refine fld fl43_1 rfl rfl rfl ?_
           refine bsl (fun _ _ h => h.pick []) rfl rfl rfl (bsl41_1 (.slice _ _ _) rfl) (fun bkl29 hbkl29 => ?_)
           refine apR (hd := ((some ⟨bkm8, 0, none⟩), nws)) (x := (Math.mapR (Math.mirVc vs i) nws)) 4 3 0 maK.ok rfl rfl rfl (fun h => by first | rfl | (dsimp only at h; rw [h]; rfl) | (rw [h]; rfl) | exact congrArg (fun m => [Value.slice _ m _]) h) mk41 (fun _ _ h => h.pick []) rfl rfl rfl rfl (by omega) ?_
           intro aq44 cq44
           refine stl (v := .slice _ _ _) 4 rfl Try.sizeOf41 (fun _ h => h.pick []) rfl rfl rfl rfl rfl (Nat.le_of_ble_eq_true rfl) ?_
           refine fld fl43_2 rfl rfl rfl ?_
           refine stf (v := .slice _ _ _) 4 rfl Try.sizeOf41 rfl rfl rfl rfl rfl (Nat.le_of_ble_eq_true rfl) ?_
           refine rNil ?_
           refine qSeq rfl ?_
           refine hReg (sq 0 (sq 1 sz)) (by kernel_rfl) ?_
           refine add rfl rfl rfl rfl (by omega) ?_
           refine mvI rfl rfl rfl ?_
           refine rNil ?_
           rw [Math.mirWs_snoc ws rfl, Math.mirVs_snoc vs rfl]
           exact qNext rfl ((i + 1, q + 1, ((aq43, cq43), (hset hd.2 (Math.mirWs ws nws i).length ((some ⟨bkm7, 0, none⟩), nws))), ((aq44, cq44), (hset he.2 (Math.mirVs vs nws i).length ((some ⟨bkm8, 0, none⟩), nws))))) (by dsimp only; omega) ⟨by dsimp only; omega, by dsimp only; omega⟩ ⟨rfl, rfl, rfl, rfl, rfl, rfl, trivial⟩ (fun _ h => h.pick [0, 1, 2, 2, 2, 2])
          ·
           refine bsl (fun _ _ h => h.pick []) rfl rfl rfl (bsl41_1 (.slice _ _ _) rfl) (fun bkl30 hbkl30 => ?_)
           refine apR (hd := ((some ⟨bkm7, 0, none⟩), nws)) (x := (Math.mapR (Math.mirWc ws i) nws)) 5 3 1 maK.ok rfl rfl rfl (fun h => by first | rfl | (dsimp only at h; rw [h]; rfl) | (rw [h]; rfl) | exact congrArg (fun m => [Value.slice _ m _]) h) mk41 (fun _ _ h => h.pick []) rfl rfl rfl rfl (by omega) ?_
           intro aq45 cq45
           refine fld fl43_1 rfl rfl rfl ?_
           refine apR (hd := ((some ⟨bkm8, 0, none⟩), nws)) (x := (Math.mapR (Math.mirVc vs i) nws)) 4 3 1 maK.ok rfl rfl rfl (fun h => by first | rfl | (dsimp only at h; rw [h]; rfl) | (rw [h]; rfl) | exact congrArg (fun m => [Value.slice _ m _]) h) mk41 (fun _ _ h => h.pick []) rfl rfl rfl rfl (by omega) ?_
           intro aq46 cq46
           refine stl (v := .slice _ _ _) 4 rfl Try.sizeOf41 (fun _ h => h.pick []) rfl rfl rfl rfl rfl (Nat.le_of_ble_eq_true rfl) ?_
           refine fld fl43_2 rfl rfl rfl ?_
           refine stf (v := .slice _ _ _) 4 rfl Try.sizeOf41 rfl rfl rfl rfl rfl (Nat.le_of_ble_eq_true rfl) ?_
           refine rNil ?_
           refine qSeq rfl ?_
           refine hReg (sq 0 (sq 1 sz)) (by kernel_rfl) ?_
           refine add rfl rfl rfl rfl (by omega) ?_
           refine mvI rfl rfl rfl ?_
           refine rNil ?_
           rw [Math.mirWs_snoc ws rfl, Math.mirVs_snoc vs rfl]
           exact qNext rfl ((i + 1, q + 1, ((aq45, cq45), (hset hd.2 (Math.mirWs ws nws i).length ((some ⟨bkm7, 0, none⟩), nws))), ((aq46, cq46), (hset he.2 (Math.mirVs vs nws i).length ((some ⟨bkm8, 0, none⟩), nws))))) (by dsimp only; omega) ⟨by dsimp only; omega, by dsimp only; omega⟩ ⟨rfl, rfl, rfl, rfl, rfl, rfl, trivial⟩ (fun _ h => h.pick [0, 0, 2, 2, 2, 2])
         ·
          refine bsl (fun _ _ h => h.pick []) rfl rfl rfl (bsl41_1 (.slice _ _ _) rfl) (fun bkl31 hbkl31 => ?_)
          refine ldl Try.isAgg41 (cB 6 rfl rfl) (fun _ h => h.pick []) rfl rfl rfl ?_
          refine apR (hd := ((some ⟨bkm7, 0, none⟩), nws)) (x := (Math.mapR (Math.mirWc ws i) nws)) 5 3 1 maK.ok rfl rfl rfl (fun h => by first | rfl | (dsimp only at h; rw [h]; rfl) | (rw [h]; rfl) | exact congrArg (fun m => [Value.slice _ m _]) h) mk41 (fun _ _ h => h.pick []) rfl rfl rfl rfl (by omega) ?_
          intro aq47 cq47
          refine fld fl43_1 rfl rfl rfl ?_
          refine apR (hd := ((some ⟨bkm8, 0, none⟩), nws)) (x := (Math.mapR (Math.mirVc vs i) nws)) 4 3 1 maK.ok rfl rfl rfl (fun h => by first | rfl | (dsimp only at h; rw [h]; rfl) | (rw [h]; rfl) | exact congrArg (fun m => [Value.slice _ m _]) h) mk41 (fun _ _ h => h.pick []) rfl rfl rfl rfl (by omega) ?_
          intro aq48 cq48
          refine stl (v := .slice _ _ _) 4 rfl Try.sizeOf41 (fun _ h => h.pick []) rfl rfl rfl rfl rfl (Nat.le_of_ble_eq_true rfl) ?_
          refine fld fl43_2 rfl rfl rfl ?_
          refine stf (v := .slice _ _ _) 4 rfl Try.sizeOf41 rfl rfl rfl rfl rfl (Nat.le_of_ble_eq_true rfl) ?_
          refine rNil ?_
          refine qSeq rfl ?_
          refine hReg (sq 0 (sq 1 sz)) (by kernel_rfl) ?_
          refine add rfl rfl rfl rfl (by omega) ?_
          refine mvI rfl rfl rfl ?_
          refine rNil ?_
          rw [Math.mirWs_snoc ws rfl, Math.mirVs_snoc vs rfl]
          exact qNext rfl ((i + 1, q + 1, ((aq47, cq47), (hset hd.2 (Math.mirWs ws nws i).length ((some ⟨bkm7, 0, none⟩), nws))), ((aq48, cq48), (hset he.2 (Math.mirVs vs nws i).length ((some ⟨bkm8, 0, none⟩), nws))))) (by dsimp only; omega) ⟨by dsimp only; omega, by dsimp only; omega⟩ ⟨rfl, rfl, rfl, rfl, rfl, rfl, trivial⟩ (fun _ h => h.pick [0, 0, 2, 2, 2, 2])
        ·
         refine bsl (fun _ _ h => h.pick []) rfl rfl rfl (bsl41_1 (.slice _ _ _) rfl) (fun bkl32 hbkl32 => ?_)
         refine rAlt ?_ ?_
         ·
          refine ldl Try.isAgg41 (cB 6 rfl rfl) (fun _ h => h.pick []) rfl rfl rfl ?_
          refine rAlt ?_ ?_
          ·
           refine apR (hd := ((some ⟨bkm7, 0, none⟩), nws)) (x := (Math.mapR (Math.mirWc ws i) nws)) 5 3 1 maK.ok rfl rfl rfl (fun h => by first | rfl | (dsimp only at h; rw [h]; rfl) | (rw [h]; rfl) | exact congrArg (fun m => [Value.slice _ m _]) h) mk41 (fun _ _ h => h.pick []) rfl rfl rfl rfl (by omega) ?_
           intro aq49 cq49
           refine ldl Try.isAgg41 (cB 5 rfl rfl) (fun _ h => h.pick []) rfl rfl rfl ?_
           refine fld fl43_1 rfl rfl rfl ?_
           refine apR (hd := ((some ⟨bkm8, 0, none⟩), nws)) (x := (Math.mapR (Math.mirVc vs i) nws)) 4 3 1 maK.ok rfl rfl rfl (fun h => by first | rfl | (dsimp only at h; rw [h]; rfl) | (rw [h]; rfl) | exact congrArg (fun m => [Value.slice _ m _]) h) mk41 (fun _ _ h => h.pick []) rfl rfl rfl rfl (by omega) ?_
           intro aq50 cq50
           refine stl (v := .slice _ _ _) 4 rfl Try.sizeOf41 (fun _ h => h.pick []) rfl rfl rfl rfl rfl (Nat.le_of_ble_eq_true rfl) ?_
           refine fld fl43_2 rfl rfl rfl ?_
           refine stf (v := .slice _ _ _) 4 rfl Try.sizeOf41 rfl rfl rfl rfl rfl (Nat.le_of_ble_eq_true rfl) ?_
           refine rNil ?_
           refine qSeq rfl ?_
           refine hReg (sq 0 (sq 1 sz)) (by kernel_rfl) ?_
           refine add rfl rfl rfl rfl (by omega) ?_
           refine mvI rfl rfl rfl ?_
           refine rNil ?_
           rw [Math.mirWs_snoc ws rfl, Math.mirVs_snoc vs rfl]
           exact qNext rfl ((i + 1, q + 1, ((aq49, cq49), (hset hd.2 (Math.mirWs ws nws i).length ((some ⟨bkm7, 0, none⟩), nws))), ((aq50, cq50), (hset he.2 (Math.mirVs vs nws i).length ((some ⟨bkm8, 0, none⟩), nws))))) (by dsimp only; omega) ⟨by dsimp only; omega, by dsimp only; omega⟩ ⟨rfl, rfl, rfl, rfl, rfl, rfl, trivial⟩ (fun _ h => h.pick [0, 0, 2, 2, 2, 2])
          ·
           refine ldl Try.isAgg41 (cB 6 rfl rfl) (fun _ h => h.pick []) rfl rfl rfl ?_
           refine apR (hd := ((some ⟨bkm7, 0, none⟩), nws)) (x := (Math.mapR (Math.mirWc ws i) nws)) 5 3 1 maK.ok rfl rfl rfl (fun h => by first | rfl | (dsimp only at h; rw [h]; rfl) | (rw [h]; rfl) | exact congrArg (fun m => [Value.slice _ m _]) h) mk41 (fun _ _ h => h.pick []) rfl rfl rfl rfl (by omega) ?_
           intro aq51 cq51
           refine fld fl43_1 rfl rfl rfl ?_
           refine apR (hd := ((some ⟨bkm8, 0, none⟩), nws)) (x := (Math.mapR (Math.mirVc vs i) nws)) 4 3 1 maK.ok rfl rfl rfl (fun h => by first | rfl | (dsimp only at h; rw [h]; rfl) | (rw [h]; rfl) | exact congrArg (fun m => [Value.slice _ m _]) h) mk41 (fun _ _ h => h.pick []) rfl rfl rfl rfl (by omega) ?_
           intro aq52 cq52
           refine stl (v := .slice _ _ _) 4 rfl Try.sizeOf41 (fun _ h => h.pick []) rfl rfl rfl rfl rfl (Nat.le_of_ble_eq_true rfl) ?_
           refine fld fl43_2 rfl rfl rfl ?_
           refine stf (v := .slice _ _ _) 4 rfl Try.sizeOf41 rfl rfl rfl rfl rfl (Nat.le_of_ble_eq_true rfl) ?_
           refine rNil ?_
           refine qSeq rfl ?_
           refine hReg (sq 0 (sq 1 sz)) (by kernel_rfl) ?_
           refine add rfl rfl rfl rfl (by omega) ?_
           refine mvI rfl rfl rfl ?_
           refine rNil ?_
           rw [Math.mirWs_snoc ws rfl, Math.mirVs_snoc vs rfl]
           exact qNext rfl ((i + 1, q + 1, ((aq51, cq51), (hset hd.2 (Math.mirWs ws nws i).length ((some ⟨bkm7, 0, none⟩), nws))), ((aq52, cq52), (hset he.2 (Math.mirVs vs nws i).length ((some ⟨bkm8, 0, none⟩), nws))))) (by dsimp only; omega) ⟨by dsimp only; omega, by dsimp only; omega⟩ ⟨rfl, rfl, rfl, rfl, rfl, rfl, trivial⟩ (fun _ h => h.pick [0, 0, 2, 2, 2, 2])
         ·
          refine ldl Try.isAgg41 (cB 6 rfl rfl) (fun _ h => h.pick []) rfl rfl rfl ?_
          refine ldl Try.isAgg41 (cB 6 rfl rfl) (fun _ h => h.pick []) rfl rfl rfl ?_
          refine apR (hd := ((some ⟨bkm7, 0, none⟩), nws)) (x := (Math.mapR (Math.mirWc ws i) nws)) 5 3 1 maK.ok rfl rfl rfl (fun h => by first | rfl | (dsimp only at h; rw [h]; rfl) | (rw [h]; rfl) | exact congrArg (fun m => [Value.slice _ m _]) h) mk41 (fun _ _ h => h.pick []) rfl rfl rfl rfl (by omega) ?_
          intro aq53 cq53
          refine fld fl43_1 rfl rfl rfl ?_
          refine apR (hd := ((some ⟨bkm8, 0, none⟩), nws)) (x := (Math.mapR (Math.mirVc vs i) nws)) 4 3 1 maK.ok rfl rfl rfl (fun h => by first | rfl | (dsimp only at h; rw [h]; rfl) | (rw [h]; rfl) | exact congrArg (fun m => [Value.slice _ m _]) h) mk41 (fun _ _ h => h.pick []) rfl rfl rfl rfl (by omega) ?_
          intro aq54 cq54
          refine stl (v := .slice _ _ _) 4 rfl Try.sizeOf41 (fun _ h => h.pick []) rfl rfl rfl rfl rfl (Nat.le_of_ble_eq_true rfl) ?_
          refine fld fl43_2 rfl rfl rfl ?_
          refine stf (v := .slice _ _ _) 4 rfl Try.sizeOf41 rfl rfl rfl rfl rfl (Nat.le_of_ble_eq_true rfl) ?_
          refine rNil ?_
          refine qSeq rfl ?_
          refine hReg (sq 0 (sq 1 sz)) (by kernel_rfl) ?_
          refine add rfl rfl rfl rfl (by omega) ?_
          refine mvI rfl rfl rfl ?_
          refine rNil ?_
          rw [Math.mirWs_snoc ws rfl, Math.mirVs_snoc vs rfl]
          exact qNext rfl ((i + 1, q + 1, ((aq53, cq53), (hset hd.2 (Math.mirWs ws nws i).length ((some ⟨bkm7, 0, none⟩), nws))), ((aq54, cq54), (hset he.2 (Math.mirVs vs nws i).length ((some ⟨bkm8, 0, none⟩), nws))))) (by dsimp only; omega) ⟨by dsimp only; omega, by dsimp only; omega⟩ ⟨rfl, rfl, rfl, rfl, rfl, rfl, trivial⟩ (fun _ h => h.pick [0, 0, 2, 2, 2, 2])
      ·
       refine rAlt ?_ ?_
       ·
        refine ldl Try.isAgg41 (cB 4 rfl rfl) (fun _ h => h.pick []) rfl rfl rfl ?_
        refine rAlt ?_ ?_
        ·
         refine ldl Try.isAgg41 (cB 4 rfl rfl) (fun _ h => h.pick []) rfl rfl rfl ?_
         refine rAlt ?_ ?_
         ·
          refine bsl (fun _ _ h => h.pick []) rfl rfl rfl (bsl41_1 (.slice _ _ _) rfl) (fun bkl33 hbkl33 => ?_)
          refine rAlt ?_ ?_
          ·
           refine apR (hd := ((some ⟨bkm7, 0, none⟩), nws)) (x := (Math.mapR (Math.mirWc ws i) nws)) 4 2 0 maK.ok rfl rfl rfl (fun h => by first | rfl | (dsimp only at h; rw [h]; rfl) | (rw [h]; rfl) | exact congrArg (fun m => [Value.slice _ m _]) h) mk41 (fun _ _ h => h.pick []) rfl rfl rfl rfl (by omega) ?_
           intro aq55 cq55
           refine fld fl43_1 rfl rfl rfl ?_
           refine bsl (fun _ _ h => h.pick []) rfl rfl rfl (bsl41_1 (.slice _ _ _) rfl) (fun bkl34 hbkl34 => ?_)
           refine apR (hd := ((some ⟨bkm8, 0, none⟩), nws)) (x := (Math.mapR (Math.mirVc vs i) nws)) 4 3 0 maK.ok rfl rfl rfl (fun h => by first | rfl | (dsimp only at h; rw [h]; rfl) | (rw [h]; rfl) | exact congrArg (fun m => [Value.slice _ m _]) h) mk41 (fun _ _ h => h.pick []) rfl rfl rfl rfl (by omega) ?_
           intro aq56 cq56
           refine stl (v := .slice _ _ _) 4 rfl Try.sizeOf41 (fun _ h => h.pick []) rfl rfl rfl rfl rfl (Nat.le_of_ble_eq_true rfl) ?_
           refine fld fl43_2 rfl rfl rfl ?_
           refine stf (v := .slice _ _ _) 4 rfl Try.sizeOf41 rfl rfl rfl rfl rfl (Nat.le_of_ble_eq_true rfl) ?_
           refine rNil ?_
           refine qSeq rfl ?_
           refine hReg (sq 0 (sq 1 sz)) (by kernel_rfl) ?_
           refine add rfl rfl rfl rfl (by omega) ?_
           refine mvI rfl rfl rfl ?_
           refine rNil ?_
           rw [Math.mirWs_snoc ws rfl, Math.mirVs_snoc vs rfl]
           exact qNext rfl ((i + 1, q + 1, ((aq55, cq55), (hset hd.2 (Math.mirWs ws nws i).length ((some ⟨bkm7, 0, none⟩), nws))), ((aq56, cq56), (hset he.2 (Math.mirVs vs nws i).length ((some ⟨bkm8, 0, none⟩), nws))))) (by dsimp only; omega) ⟨by dsimp only; omega, by dsimp only; omega⟩ ⟨rfl, rfl, rfl, rfl, rfl, rfl, trivial⟩ (fun _ h => h.pick [0, 1, 2, 2, 2, 2])
          ·
           refine bsl (fun _ _ h => h.pick []) rfl rfl rfl (bsl41_1 (.slice _ _ _) rfl) (fun bkl35 hbkl35 => ?_)
           refine apR (hd := ((some ⟨bkm7, 0, none⟩), nws)) (x := (Math.mapR (Math.mirWc ws i) nws)) 5 3 1 maK.ok rfl rfl rfl (fun h => by first | rfl | (dsimp only at h; rw [h]; rfl) | (rw [h]; rfl) | exact congrArg (fun m => [Value.slice _ m _]) h) mk41 (fun _ _ h => h.pick []) rfl rfl rfl rfl (by omega) ?_
           intro aq57 cq57
           refine fld fl43_1 rfl rfl rfl ?_
           refine apR (hd := ((some ⟨bkm8, 0, none⟩), nws)) (x := (Math.mapR (Math.mirVc vs i) nws)) 4 3 1 maK.ok rfl rfl rfl (fun h => by first | rfl | (dsimp only at h; rw [h]; rfl) | (rw [h]; rfl) | exact congrArg (fun m => [Value.slice _ m _]) h) mk41 (fun _ _ h => h.pick []) rfl rfl rfl rfl (by omega) ?_
           intro aq58 cq58
           refine stl (v := .slice _ _ _) 4 rfl Try.sizeOf41 (fun _ h => h.pick []) rfl rfl rfl rfl rfl (Nat.le_of_ble_eq_true rfl) ?_
           refine fld fl43_2 rfl rfl rfl ?_
           refine stf (v := .slice _ _ _) 4 rfl Try.sizeOf41 rfl rfl rfl rfl rfl (Nat.le_of_ble_eq_true rfl) ?_
           refine rNil ?_
           refine qSeq rfl ?_
           refine hReg (sq 0 (sq 1 sz)) (by kernel_rfl) ?_
           refine add rfl rfl rfl rfl (by omega) ?_
           refine mvI rfl rfl rfl ?_
           refine rNil ?_
           rw [Math.mirWs_snoc ws rfl, Math.mirVs_snoc vs rfl]
           exact qNext rfl ((i + 1, q + 1, ((aq57, cq57), (hset hd.2 (Math.mirWs ws nws i).length ((some ⟨bkm7, 0, none⟩), nws))), ((aq58, cq58), (hset he.2 (Math.mirVs vs nws i).length ((some ⟨bkm8, 0, none⟩), nws))))) (by dsimp only; omega) ⟨by dsimp only; omega, by dsimp only; omega⟩ ⟨rfl, rfl, rfl, rfl, rfl, rfl, trivial⟩ (fun _ h => h.pick [0, 0, 2, 2, 2, 2])
         ·
          refine bsl (fun _ _ h => h.pick []) rfl rfl rfl (bsl41_1 (.slice _ _ _) rfl) (fun bkl36 hbkl36 => ?_)
          refine bsl (fun _ _ h => h.pick []) rfl rfl rfl (bsl41_1 (.slice _ _ _) rfl) (fun bkl37 hbkl37 => ?_)
          refine apR (hd := ((some ⟨bkm7, 0, none⟩), nws)) (x := (Math.mapR (Math.mirWc ws i) nws)) 5 3 0 maK.ok rfl rfl rfl (fun h => by first | rfl | (dsimp only at h; rw [h]; rfl) | (rw [h]; rfl) | exact congrArg (fun m => [Value.slice _ m _]) h) mk41 (fun _ _ h => h.pick []) rfl rfl rfl rfl (by omega) ?_
          intro aq59 cq59
          refine fld fl43_1 rfl rfl rfl ?_
          refine apR (hd := ((some ⟨bkm8, 0, none⟩), nws)) (x := (Math.mapR (Math.mirVc vs i) nws)) 4 3 2 maK.ok rfl rfl rfl (fun h => by first | rfl | (dsimp only at h; rw [h]; rfl) | (rw [h]; rfl) | exact congrArg (fun m => [Value.slice _ m _]) h) mk41 (fun _ _ h => h.pick []) rfl rfl rfl rfl (by omega) ?_
          intro aq60 cq60
          refine stl (v := .slice _ _ _) 4 rfl Try.sizeOf41 (fun _ h => h.pick []) rfl rfl rfl rfl rfl (Nat.le_of_ble_eq_true rfl) ?_
          refine fld fl43_2 rfl rfl rfl ?_
          refine stf (v := .slice _ _ _) 4 rfl Try.sizeOf41 rfl rfl rfl rfl rfl (Nat.le_of_ble_eq_true rfl) ?_
          refine rNil ?_
          refine qSeq rfl ?_
          refine hReg (sq 0 (sq 1 sz)) (by kernel_rfl) ?_
          refine add rfl rfl rfl rfl (by omega) ?_
          refine mvI rfl rfl rfl ?_
          refine rNil ?_
          rw [Math.mirWs_snoc ws rfl, Math.mirVs_snoc vs rfl]
          exact qNext rfl ((i + 1, q + 1, ((aq59, cq59), (hset hd.2 (Math.mirWs ws nws i).length ((some ⟨bkm7, 0, none⟩), nws))), ((aq60, cq60), (hset he.2 (Math.mirVs vs nws i).length ((some ⟨bkm8, 0, none⟩), nws))))) (by dsimp only; omega) ⟨by dsimp only; omega, by dsimp only; omega⟩ ⟨rfl, rfl, rfl, rfl, rfl, rfl, trivial⟩ (fun _ h => h.pick [0, 0, 2, 2, 2, 2])
        ·
         refine rAlt ?_ ?_
         ·
          refine bsl (fun _ _ h => h.pick []) rfl rfl rfl (bsl41_1 (.slice _ _ _) rfl) (fun bkl38 hbkl38 => ?_)
          refine rAlt ?_ ?_
          ·
           refine ldl Try.isAgg41 (cB 5 rfl rfl) (fun _ h => h.pick []) rfl rfl rfl ?_
           refine rAlt ?_ ?_
           ·
            refine apR (hd := ((some ⟨bkm7, 0, none⟩), nws)) (x := (Math.mapR (Math.mirWc ws i) nws)) 4 2 0 maK.ok rfl rfl rfl (fun h => by first | rfl | (dsimp only at h; rw [h]; rfl) | (rw [h]; rfl) | exact congrArg (fun m => [Value.slice _ m _]) h) mk41 (fun _ _ h => h.pick []) rfl rfl rfl rfl (by omega) ?_
            intro aq61 cq61
            refine fld fl43_1 rfl rfl rfl ?_
            refine bsl (fun _ _ h => h.pick []) rfl rfl rfl (bsl41_1 (.slice _ _ _) rfl) (fun bkl39 hbkl39 => ?_)
            refine apR (hd := ((some ⟨bkm8, 0, none⟩), nws)) (x := (Math.mapR (Math.mirVc vs i) nws)) 4 3 0 maK.ok rfl rfl rfl (fun h => by first | rfl | (dsimp only at h; rw [h]; rfl) | (rw [h]; rfl) | exact congrArg (fun m => [Value.slice _ m _]) h) mk41 (fun _ _ h => h.pick []) rfl rfl rfl rfl (by omega) ?_
            intro aq62 cq62
            refine stl (v := .slice _ _ _) 4 rfl Try.sizeOf41 (fun _ h => h.pick []) rfl rfl rfl rfl rfl (Nat.le_of_ble_eq_true rfl) ?_
            refine fld fl43_2 rfl rfl rfl ?_
            refine stf (v := .slice _ _ _) 4 rfl Try.sizeOf41 rfl rfl rfl rfl rfl (Nat.le_of_ble_eq_true rfl) ?_
            refine rNil ?_
            refine qSeq rfl ?_
            refine hReg (sq 0 (sq 1 sz)) (by kernel_rfl) ?_
            refine add rfl rfl rfl rfl (by omega) ?_
            refine mvI rfl rfl rfl ?_
            refine rNil ?_
            rw [Math.mirWs_snoc ws rfl, Math.mirVs_snoc vs rfl]
            exact qNext rfl ((i + 1, q + 1, ((aq61, cq61), (hset hd.2 (Math.mirWs ws nws i).length ((some ⟨bkm7, 0, none⟩), nws))), ((aq62, cq62), (hset he.2 (Math.mirVs vs nws i).length ((some ⟨bkm8, 0, none⟩), nws))))) (by dsimp only; omega) ⟨by dsimp only; omega, by dsimp only; omega⟩ ⟨rfl, rfl, rfl, rfl, rfl, rfl, trivial⟩ (fun _ h => h.pick [0, 1, 2, 2, 2, 2])
           ·
            refine bsl (fun _ _ h => h.pick []) rfl rfl rfl (bsl41_1 (.slice _ _ _) rfl) (fun bkl40 hbkl40 => ?_)
            refine apR (hd := ((some ⟨bkm7, 0, none⟩), nws)) (x := (Math.mapR (Math.mirWc ws i) nws)) 5 3 1 maK.ok rfl rfl rfl (fun h => by first | rfl | (dsimp only at h; rw [h]; rfl) | (rw [h]; rfl) | exact congrArg (fun m => [Value.slice _ m _]) h) mk41 (fun _ _ h => h.pick []) rfl rfl rfl rfl (by omega) ?_
            intro aq63 cq63
            refine fld fl43_1 rfl rfl rfl ?_
            refine apR (hd := ((some ⟨bkm8, 0, none⟩), nws)) (x := (Math.mapR (Math.mirVc vs i) nws)) 4 3 1 maK.ok rfl rfl rfl (fun h => by first | rfl | (dsimp only at h; rw [h]; rfl) | (rw [h]; rfl) | exact congrArg (fun m => [Value.slice _ m _]) h) mk41 (fun _ _ h => h.pick []) rfl rfl rfl rfl (by omega) ?_
            intro aq64 cq64
            refine stl (v := .slice _ _ _) 4 rfl Try.sizeOf41 (fun _ h => h.pick []) rfl rfl rfl rfl rfl (Nat.le_of_ble_eq_true rfl) ?_
            refine fld fl43_2 rfl rfl rfl ?_
            refine stf (v := .slice _ _ _) 4 rfl Try.sizeOf41 rfl rfl rfl rfl rfl (Nat.le_of_ble_eq_true rfl) ?_
            refine rNil ?_
            refine qSeq rfl ?_
            refine hReg (sq 0 (sq 1 sz)) (by kernel_rfl) ?_
            refine add rfl rfl rfl rfl (by omega) ?_
            refine mvI rfl rfl rfl ?_
            refine rNil ?_
            rw [Math.mirWs_snoc ws rfl, Math.mirVs_snoc vs rfl]
            exact qNext rfl ((i + 1, q + 1, ((aq63, cq63), (hset hd.2 (Math.mirWs ws nws i).length ((some ⟨bkm7, 0, none⟩), nws))), ((aq64, cq64), (hset he.2 (Math.mirVs vs nws i).length ((some ⟨bkm8, 0, none⟩), nws))))) (by dsimp only; omega) ⟨by dsimp only; omega, by dsimp only; omega⟩ ⟨rfl, rfl, rfl, rfl, rfl, rfl, trivial⟩ (fun _ h => h.pick [0, 0, 2, 2, 2, 2])
          ·
           refine bsl (fun _ _ h => h.pick []) rfl rfl rfl (bsl41_1 (.slice _ _ _) rfl) (fun bkl41 hbkl41 => ?_)
           refine ldl Try.isAgg41 (cB 6 rfl rfl) (fun _ h => h.pick []) rfl rfl rfl ?_
           refine apR (hd := ((some ⟨bkm7, 0, none⟩), nws)) (x := (Math.mapR (Math.mirWc ws i) nws)) 5 3 1 maK.ok rfl rfl rfl (fun h => by first | rfl | (dsimp only at h; rw [h]; rfl) | (rw [h]; rfl) | exact congrArg (fun m => [Value.slice _ m _]) h) mk41 (fun _ _ h => h.pick []) rfl rfl rfl rfl (by omega) ?_
           intro aq65 cq65
           refine fld fl43_1 rfl rfl rfl ?_
           refine apR (hd := ((some ⟨bkm8, 0, none⟩), nws)) (x := (Math.mapR (Math.mirVc vs i) nws)) 4 3 1 maK.ok rfl rfl rfl (fun h => by first | rfl | (dsimp only at h; rw [h]; rfl) | (rw [h]; rfl) | exact congrArg (fun m => [Value.slice _ m _]) h) mk41 (fun _ _ h => h.pick []) rfl rfl rfl rfl (by omega) ?_
           intro aq66 cq66
           refine stl (v := .slice _ _ _) 4 rfl Try.sizeOf41 (fun _ h => h.pick []) rfl rfl rfl rfl rfl (Nat.le_of_ble_eq_true rfl) ?_
           refine fld fl43_2 rfl rfl rfl ?_
           refine stf (v := .slice _ _ _) 4 rfl Try.sizeOf41 rfl rfl rfl rfl rfl (Nat.le_of_ble_eq_true rfl) ?_
           refine rNil ?_
           refine qSeq rfl ?_
           refine hReg (sq 0 (sq 1 sz)) (by kernel_rfl) ?_
           refine add rfl rfl rfl rfl (by omega) ?_
           refine mvI rfl rfl rfl ?_
           refine rNil ?_
           rw [Math.mirWs_snoc ws rfl, Math.mirVs_snoc vs rfl]
           exact qNext rfl ((i + 1, q + 1, ((aq65, cq65), (hset hd.2 (Math.mirWs ws nws i).length ((some ⟨bkm7, 0, none⟩), nws))), ((aq66, cq66), (hset he.2 (Math.mirVs vs nws i).length ((some ⟨bkm8, 0, none⟩), nws))))) (by dsimp only; omega) ⟨by dsimp only; omega, by dsimp only; omega⟩ ⟨rfl, rfl, rfl, rfl, rfl, rfl, trivial⟩ (fun _ h => h.pick [0, 0, 2, 2, 2, 2])
         ·
          refine bsl (fun _ _ h => h.pick []) rfl rfl rfl (bsl41_1 (.slice _ _ _) rfl) (fun bkl42 hbkl42 => ?_)
          refine rAlt ?_ ?_
          ·
           refine ldl Try.isAgg41 (cB 5 rfl rfl) (fun _ h => h.pick []) rfl rfl rfl ?_
           refine bsl (fun _ _ h => h.pick []) rfl rfl rfl (bsl41_1 (.slice _ _ _) rfl) (fun bkl43 hbkl43 => ?_)
           refine apR (hd := ((some ⟨bkm7, 0, none⟩), nws)) (x := (Math.mapR (Math.mirWc ws i) nws)) 5 3 0 maK.ok rfl rfl rfl (fun h => by first | rfl | (dsimp only at h; rw [h]; rfl) | (rw [h]; rfl) | exact congrArg (fun m => [Value.slice _ m _]) h) mk41 (fun _ _ h => h.pick []) rfl rfl rfl rfl (by omega) ?_
           intro aq67 cq67
           refine fld fl43_1 rfl rfl rfl ?_
           refine apR (hd := ((some ⟨bkm8, 0, none⟩), nws)) (x := (Math.mapR (Math.mirVc vs i) nws)) 4 3 2 maK.ok rfl rfl rfl (fun h => by first | rfl | (dsimp only at h; rw [h]; rfl) | (rw [h]; rfl) | exact congrArg (fun m => [Value.slice _ m _]) h) mk41 (fun _ _ h => h.pick []) rfl rfl rfl rfl (by omega) ?_
           intro aq68 cq68
           refine stl (v := .slice _ _ _) 4 rfl Try.sizeOf41 (fun _ h => h.pick []) rfl rfl rfl rfl rfl (Nat.le_of_ble_eq_true rfl) ?_
           refine fld fl43_2 rfl rfl rfl ?_
           refine stf (v := .slice _ _ _) 4 rfl Try.sizeOf41 rfl rfl rfl rfl rfl (Nat.le_of_ble_eq_true rfl) ?_
           refine rNil ?_
           refine qSeq rfl ?_
           refine hReg (sq 0 (sq 1 sz)) (by kernel_rfl) ?_
           refine add rfl rfl rfl rfl (by omega) ?_
           refine mvI rfl rfl rfl ?_
           refine rNil ?_
           rw [Math.mirWs_snoc ws rfl, Math.mirVs_snoc vs rfl]
           exact qNext rfl ((i + 1, q + 1, ((aq67, cq67), (hset hd.2 (Math.mirWs ws nws i).length ((some ⟨bkm7, 0, none⟩), nws))), ((aq68, cq68), (hset he.2 (Math.mirVs vs nws i).length ((some ⟨bkm8, 0, none⟩), nws))))) (by dsimp only; omega) ⟨by dsimp only; omega, by dsimp only; omega⟩ ⟨rfl, rfl, rfl, rfl, rfl, rfl, trivial⟩ (fun _ h => h.pick [0, 0, 2, 2, 2, 2])
          ·
           refine bsl (fun _ _ h => h.pick []) rfl rfl rfl (bsl41_1 (.slice _ _ _) rfl) (fun bkl44 hbkl44 => ?_)
           refine ldl Try.isAgg41 (cB 6 rfl rfl) (fun _ h => h.pick []) rfl rfl rfl ?_
           refine apR (hd := ((some ⟨bkm7, 0, none⟩), nws)) (x := (Math.mapR (Math.mirWc ws i) nws)) 5 3 0 maK.ok rfl rfl rfl (fun h => by first | rfl | (dsimp only at h; rw [h]; rfl) | (rw [h]; rfl) | exact congrArg (fun m => [Value.slice _ m _]) h) mk41 (fun _ _ h => h.pick []) rfl rfl rfl rfl (by omega) ?_
           intro aq69 cq69
           refine fld fl43_1 rfl rfl rfl ?_
           refine apR (hd := ((some ⟨bkm8, 0, none⟩), nws)) (x := (Math.mapR (Math.mirVc vs i) nws)) 4 3 2 maK.ok rfl rfl rfl (fun h => by first | rfl | (dsimp only at h; rw [h]; rfl) | (rw [h]; rfl) | exact congrArg (fun m => [Value.slice _ m _]) h) mk41 (fun _ _ h => h.pick []) rfl rfl rfl rfl (by omega) ?_
           intro aq70 cq70
           refine stl (v := .slice _ _ _) 4 rfl Try.sizeOf41 (fun _ h => h.pick []) rfl rfl rfl rfl rfl (Nat.le_of_ble_eq_true rfl) ?_
           refine fld fl43_2 rfl rfl rfl ?_
           refine stf (v := .slice _ _ _) 4 rfl Try.sizeOf41 rfl rfl rfl rfl rfl (Nat.le_of_ble_eq_true rfl) ?_
           refine rNil ?_
           refine qSeq rfl ?_
           refine hReg (sq 0 (sq 1 sz)) (by kernel_rfl) ?_
           refine add rfl rfl rfl rfl (by omega) ?_
           refine mvI rfl rfl rfl ?_
           refine rNil ?_
           rw [Math.mirWs_snoc ws rfl, Math.mirVs_snoc vs rfl]
           exact qNext rfl ((i + 1, q + 1, ((aq69, cq69), (hset hd.2 (Math.mirWs ws nws i).length ((some ⟨bkm7, 0, none⟩), nws))), ((aq70, cq70), (hset he.2 (Math.mirVs vs nws i).length ((some ⟨bkm8, 0, none⟩), nws))))) (by dsimp only; omega) ⟨by dsimp only; omega, by dsimp only; omega⟩ ⟨rfl, rfl, rfl, rfl, rfl, rfl, trivial⟩ (fun _ h => h.pick [0, 0, 2, 2, 2, 2])
       ·
        refine bsl (fun _ _ h => h.pick []) rfl rfl rfl (bsl41_1 (.slice _ _ _) rfl) (fun bkl45 hbkl45 => ?_)
        refine rAlt ?_ ?_
        ·
         refine ldl Try.isAgg41 (cB 5 rfl rfl) (fun _ h => h.pick []) rfl rfl rfl ?_
         refine rAlt ?_ ?_
         ·
          refine bsl (fun _ _ h => h.pick []) rfl rfl rfl (bsl41_1 (.slice _ _ _) rfl) (fun bkl46 hbkl46 => ?_)
          refine rAlt ?_ ?_
          ·
           refine apR (hd := ((some ⟨bkm7, 0, none⟩), nws)) (x := (Math.mapR (Math.mirWc ws i) nws)) 5 3 0 maK.ok rfl rfl rfl (fun h => by first | rfl | (dsimp only at h; rw [h]; rfl) | (rw [h]; rfl) | exact congrArg (fun m => [Value.slice _ m _]) h) mk41 (fun _ _ h => h.pick []) rfl rfl rfl rfl (by omega) ?_
           intro aq71 cq71
           refine ldl Try.isAgg41 (cB 5 rfl rfl) (fun _ h => h.pick []) rfl rfl rfl ?_
           refine fld fl43_1 rfl rfl rfl ?_
           refine apR (hd := ((some ⟨bkm8, 0, none⟩), nws)) (x := (Math.mapR (Math.mirVc vs i) nws)) 4 3 2 maK.ok rfl rfl rfl (fun h => by first | rfl | (dsimp only at h; rw [h]; rfl) | (rw [h]; rfl) | exact congrArg (fun m => [Value.slice _ m _]) h) mk41 (fun _ _ h => h.pick []) rfl rfl rfl rfl (by omega) ?_
           intro aq72 cq72
           refine stl (v := .slice _ _ _) 4 rfl Try.sizeOf41 (fun _ h => h.pick []) rfl rfl rfl rfl rfl (Nat.le_of_ble_eq_true rfl) ?_
           refine fld fl43_2 rfl rfl rfl ?_
           refine stf (v := .slice _ _ _) 4 rfl Try.sizeOf41 rfl rfl rfl rfl rfl (Nat.le_of_ble_eq_true rfl) ?_
           refine rNil ?_
           refine qSeq rfl ?_
           refine hReg (sq 0 (sq 1 sz)) (by kernel_rfl) ?_
           refine add rfl rfl rfl rfl (by omega) ?_
           refine mvI rfl rfl rfl ?_
           refine rNil ?_
           rw [Math.mirWs_snoc ws rfl, Math.mirVs_snoc vs rfl]
           exact qNext rfl ((i + 1, q + 1, ((aq71, cq71), (hset hd.2 (Math.mirWs ws nws i).length ((some ⟨bkm7, 0, none⟩), nws))), ((aq72, cq72), (hset he.2 (Math.mirVs vs nws i).length ((some ⟨bkm8, 0, none⟩), nws))))) (by dsimp only; omega) ⟨by dsimp only; omega, by dsimp only; omega⟩ ⟨rfl, rfl, rfl, rfl, rfl, rfl, trivial⟩ (fun _ h => h.pick [0, 0, 2, 2, 2, 2])
          ·
           refine ldl Try.isAgg41 (cB 6 rfl rfl) (fun _ h => h.pick []) rfl rfl rfl ?_
           refine apR (hd := ((some ⟨bkm7, 0, none⟩), nws)) (x := (Math.mapR (Math.mirWc ws i) nws)) 5 3 0 maK.ok rfl rfl rfl (fun h => by first | rfl | (dsimp only at h; rw [h]; rfl) | (rw [h]; rfl) | exact congrArg (fun m => [Value.slice _ m _]) h) mk41 (fun _ _ h => h.pick []) rfl rfl rfl rfl (by omega) ?_
           intro aq73 cq73
           refine fld fl43_1 rfl rfl rfl ?_
           refine apR (hd := ((some ⟨bkm8, 0, none⟩), nws)) (x := (Math.mapR (Math.mirVc vs i) nws)) 4 3 2 maK.ok rfl rfl rfl (fun h => by first | rfl | (dsimp only at h; rw [h]; rfl) | (rw [h]; rfl) | exact congrArg (fun m => [Value.slice _ m _]) h) mk41 (fun _ _ h => h.pick []) rfl rfl rfl rfl (by omega) ?_
           intro aq74 cq74
           refine stl (v := .slice _ _ _) 4 rfl Try.sizeOf41 (fun _ h => h.pick []) rfl rfl rfl rfl rfl (Nat.le_of_ble_eq_true rfl) ?_
           refine fld fl43_2 rfl rfl rfl ?_
           refine stf (v := .slice _ _ _) 4 rfl Try.sizeOf41 rfl rfl rfl rfl rfl (Nat.le_of_ble_eq_true rfl) ?_
           refine rNil ?_
           refine qSeq rfl ?_
           refine hReg (sq 0 (sq 1 sz)) (by kernel_rfl) ?_
           refine add rfl rfl rfl rfl (by omega) ?_
           refine mvI rfl rfl rfl ?_
           refine rNil ?_
           rw [Math.mirWs_snoc ws rfl, Math.mirVs_snoc vs rfl]
           exact qNext rfl ((i + 1, q + 1, ((aq73, cq73), (hset hd.2 (Math.mirWs ws nws i).length ((some ⟨bkm7, 0, none⟩), nws))), ((aq74, cq74), (hset he.2 (Math.mirVs vs nws i).length ((some ⟨bkm8, 0, none⟩), nws))))) (by dsimp only; omega) ⟨by dsimp only; omega, by dsimp only; omega⟩ ⟨rfl, rfl, rfl, rfl, rfl, rfl, trivial⟩ (fun _ h => h.pick [0, 0, 2, 2, 2, 2])
         ·
          refine ldl Try.isAgg41 (cB 5 rfl rfl) (fun _ h => h.pick []) rfl rfl rfl ?_
          refine bsl (fun _ _ h => h.pick []) rfl rfl rfl (bsl41_1 (.slice _ _ _) rfl) (fun bkl47 hbkl47 => ?_)
          refine apR (hd := ((some ⟨bkm7, 0, none⟩), nws)) (x := (Math.mapR (Math.mirWc ws i) nws)) 5 3 0 maK.ok rfl rfl rfl (fun h => by first | rfl | (dsimp only at h; rw [h]; rfl) | (rw [h]; rfl) | exact congrArg (fun m => [Value.slice _ m _]) h) mk41 (fun _ _ h => h.pick []) rfl rfl rfl rfl (by omega) ?_
          intro aq75 cq75
          refine fld fl43_1 rfl rfl rfl ?_
          refine apR (hd := ((some ⟨bkm8, 0, none⟩), nws)) (x := (Math.mapR (Math.mirVc vs i) nws)) 4 3 2 maK.ok rfl rfl rfl (fun h => by first | rfl | (dsimp only at h; rw [h]; rfl) | (rw [h]; rfl) | exact congrArg (fun m => [Value.slice _ m _]) h) mk41 (fun _ _ h => h.pick []) rfl rfl rfl rfl (by omega) ?_
          intro aq76 cq76
          refine stl (v := .slice _ _ _) 4 rfl Try.sizeOf41 (fun _ h => h.pick []) rfl rfl rfl rfl rfl (Nat.le_of_ble_eq_true rfl) ?_
          refine fld fl43_2 rfl rfl rfl ?_
          refine stf (v := .slice _ _ _) 4 rfl Try.sizeOf41 rfl rfl rfl rfl rfl (Nat.le_of_ble_eq_true rfl) ?_
          refine rNil ?_
          refine qSeq rfl ?_
          refine hReg (sq 0 (sq 1 sz)) (by kernel_rfl) ?_
          refine add rfl rfl rfl rfl (by omega) ?_
          refine mvI rfl rfl rfl ?_
          refine rNil ?_
          rw [Math.mirWs_snoc ws rfl, Math.mirVs_snoc vs rfl]
          exact qNext rfl ((i + 1, q + 1, ((aq75, cq75), (hset hd.2 (Math.mirWs ws nws i).length ((some ⟨bkm7, 0, none⟩), nws))), ((aq76, cq76), (hset he.2 (Math.mirVs vs nws i).length ((some ⟨bkm8, 0, none⟩), nws))))) (by dsimp only; omega) ⟨by dsimp only; omega, by dsimp only; omega⟩ ⟨rfl, rfl, rfl, rfl, rfl, rfl, trivial⟩ (fun _ h => h.pick [0, 0, 2, 2, 2, 2])
        ·
         refine rAlt ?_ ?_
         ·
          refine bsl (fun _ _ h => h.pick []) rfl rfl rfl (bsl41_1 (.slice _ _ _) rfl) (fun bkl48 hbkl48 => ?_)
          refine rAlt ?_ ?_
          ·
           refine ldl Try.isAgg41 (cB 6 rfl rfl) (fun _ h => h.pick []) rfl rfl rfl ?_
           refine rAlt ?_ ?_
           ·
            refine apR (hd := ((some ⟨bkm7, 0, none⟩), nws)) (x := (Math.mapR (Math.mirWc ws i) nws)) 5 3 0 maK.ok rfl rfl rfl (fun h => by first | rfl | (dsimp only at h; rw [h]; rfl) | (rw [h]; rfl) | exact congrArg (fun m => [Value.slice _ m _]) h) mk41 (fun _ _ h => h.pick []) rfl rfl rfl rfl (by omega) ?_
            intro aq77 cq77
            refine ldl Try.isAgg41 (cB 5 rfl rfl) (fun _ h => h.pick []) rfl rfl rfl ?_
            refine fld fl43_1 rfl rfl rfl ?_
            refine apR (hd := ((some ⟨bkm8, 0, none⟩), nws)) (x := (Math.mapR (Math.mirVc vs i) nws)) 4 3 2 maK.ok rfl rfl rfl (fun h => by first | rfl | (dsimp only at h; rw [h]; rfl) | (rw [h]; rfl) | exact congrArg (fun m => [Value.slice _ m _]) h) mk41 (fun _ _ h => h.pick []) rfl rfl rfl rfl (by omega) ?_
            intro aq78 cq78
            refine stl (v := .slice _ _ _) 4 rfl Try.sizeOf41 (fun _ h => h.pick []) rfl rfl rfl rfl rfl (Nat.le_of_ble_eq_true rfl) ?_
            refine fld fl43_2 rfl rfl rfl ?_
            refine stf (v := .slice _ _ _) 4 rfl Try.sizeOf41 rfl rfl rfl rfl rfl (Nat.le_of_ble_eq_true rfl) ?_
            refine rNil ?_
            refine qSeq rfl ?_
            refine hReg (sq 0 (sq 1 sz)) (by kernel_rfl) ?_
            refine add rfl rfl rfl rfl (by omega) ?_
            refine mvI rfl rfl rfl ?_
            refine rNil ?_
            rw [Math.mirWs_snoc ws rfl, Math.mirVs_snoc vs rfl]
            exact qNext rfl ((i + 1, q + 1, ((aq77, cq77), (hset hd.2 (Math.mirWs ws nws i).length ((some ⟨bkm7, 0, none⟩), nws))), ((aq78, cq78), (hset he.2 (Math.mirVs vs nws i).length ((some ⟨bkm8, 0, none⟩), nws))))) (by dsimp only; omega) ⟨by dsimp only; omega, by dsimp only; omega⟩ ⟨rfl, rfl, rfl, rfl, rfl, rfl, trivial⟩ (fun _ h => h.pick [0, 0, 2, 2, 2, 2])
           ·
            refine ldl Try.isAgg41 (cB 6 rfl rfl) (fun _ h => h.pick []) rfl rfl rfl ?_
            refine apR (hd := ((some ⟨bkm7, 0, none⟩), nws)) (x := (Math.mapR (Math.mirWc ws i) nws)) 5 3 0 maK.ok rfl rfl rfl (fun h => by first | rfl | (dsimp only at h; rw [h]; rfl) | (rw [h]; rfl) | exact congrArg (fun m => [Value.slice _ m _]) h) mk41 (fun _ _ h => h.pick []) rfl rfl rfl rfl (by omega) ?_
            intro aq79 cq79
            refine fld fl43_1 rfl rfl rfl ?_
            refine apR (hd := ((some ⟨bkm8, 0, none⟩), nws)) (x := (Math.mapR (Math.mirVc vs i) nws)) 4 3 2 maK.ok rfl rfl rfl (fun h => by first | rfl | (dsimp only at h; rw [h]; rfl) | (rw [h]; rfl) | exact congrArg (fun m => [Value.slice _ m _]) h) mk41 (fun _ _ h => h.pick []) rfl rfl rfl rfl (by omega) ?_
            intro aq80 cq80
            refine stl (v := .slice _ _ _) 4 rfl Try.sizeOf41 (fun _ h => h.pick []) rfl rfl rfl rfl rfl (Nat.le_of_ble_eq_true rfl) ?_
            refine fld fl43_2 rfl rfl rfl ?_
            refine stf (v := .slice _ _ _) 4 rfl Try.sizeOf41 rfl rfl rfl rfl rfl (Nat.le_of_ble_eq_true rfl) ?_
            refine rNil ?_
            refine qSeq rfl ?_
            refine hReg (sq 0 (sq 1 sz)) (by kernel_rfl) ?_
            refine add rfl rfl rfl rfl (by omega) ?_
            refine mvI rfl rfl rfl ?_
            refine rNil ?_
            rw [Math.mirWs_snoc ws rfl, Math.mirVs_snoc vs rfl]
            exact qNext rfl ((i + 1, q + 1, ((aq79, cq79), (hset hd.2 (Math.mirWs ws nws i).length ((some ⟨bkm7, 0, none⟩), nws))), ((aq80, cq80), (hset he.2 (Math.mirVs vs nws i).length ((some ⟨bkm8, 0, none⟩), nws))))) (by dsimp only; omega) ⟨by dsimp only; omega, by dsimp only; omega⟩ ⟨rfl, rfl, rfl, rfl, rfl, rfl, trivial⟩ (fun _ h => h.pick [0, 0, 2, 2, 2, 2])
          ·
           refine ldl Try.isAgg41 (cB 6 rfl rfl) (fun _ h => h.pick []) rfl rfl rfl ?_
           refine ldl Try.isAgg41 (cB 6 rfl rfl) (fun _ h => h.pick []) rfl rfl rfl ?_
           refine apR (hd := ((some ⟨bkm7, 0, none⟩), nws)) (x := (Math.mapR (Math.mirWc ws i) nws)) 5 3 0 maK.ok rfl rfl rfl (fun h => by first | rfl | (dsimp only at h; rw [h]; rfl) | (rw [h]; rfl) | exact congrArg (fun m => [Value.slice _ m _]) h) mk41 (fun _ _ h => h.pick []) rfl rfl rfl rfl (by omega) ?_
           intro aq81 cq81
           refine fld fl43_1 rfl rfl rfl ?_
           refine apR (hd := ((some ⟨bkm8, 0, none⟩), nws)) (x := (Math.mapR (Math.mirVc vs i) nws)) 4 3 2 maK.ok rfl rfl rfl (fun h => by first | rfl | (dsimp only at h; rw [h]; rfl) | (rw [h]; rfl) | exact congrArg (fun m => [Value.slice _ m _]) h) mk41 (fun _ _ h => h.pick []) rfl rfl rfl rfl (by omega) ?_
           intro aq82 cq82
           refine stl (v := .slice _ _ _) 4 rfl Try.sizeOf41 (fun _ h => h.pick []) rfl rfl rfl rfl rfl (Nat.le_of_ble_eq_true rfl) ?_
           refine fld fl43_2 rfl rfl rfl ?_
           refine stf (v := .slice _ _ _) 4 rfl Try.sizeOf41 rfl rfl rfl rfl rfl (Nat.le_of_ble_eq_true rfl) ?_
           refine rNil ?_
           refine qSeq rfl ?_
           refine hReg (sq 0 (sq 1 sz)) (by kernel_rfl) ?_
           refine add rfl rfl rfl rfl (by omega) ?_
           refine mvI rfl rfl rfl ?_
           refine rNil ?_
           rw [Math.mirWs_snoc ws rfl, Math.mirVs_snoc vs rfl]
           exact qNext rfl ((i + 1, q + 1, ((aq81, cq81), (hset hd.2 (Math.mirWs ws nws i).length ((some ⟨bkm7, 0, none⟩), nws))), ((aq82, cq82), (hset he.2 (Math.mirVs vs nws i).length ((some ⟨bkm8, 0, none⟩), nws))))) (by dsimp only; omega) ⟨by dsimp only; omega, by dsimp only; omega⟩ ⟨rfl, rfl, rfl, rfl, rfl, rfl, trivial⟩ (fun _ h => h.pick [0, 0, 2, 2, 2, 2])
         ·
          refine ldl Try.isAgg41 (cB 5 rfl rfl) (fun _ h => h.pick []) rfl rfl rfl ?_
          refine rAlt ?_ ?_
          ·
           refine ldl Try.isAgg41 (cB 5 rfl rfl) (fun _ h => h.pick []) rfl rfl rfl ?_
           refine bsl (fun _ _ h => h.pick []) rfl rfl rfl (bsl41_1 (.slice _ _ _) rfl) (fun bkl49 hbkl49 => ?_)
           refine apR (hd := ((some ⟨bkm7, 0, none⟩), nws)) (x := (Math.mapR (Math.mirWc ws i) nws)) 5 3 0 maK.ok rfl rfl rfl (fun h => by first | rfl | (dsimp only at h; rw [h]; rfl) | (rw [h]; rfl) | exact congrArg (fun m => [Value.slice _ m _]) h) mk41 (fun _ _ h => h.pick []) rfl rfl rfl rfl (by omega) ?_
           intro aq83 cq83
           refine fld fl43_1 rfl rfl rfl ?_
           refine apR (hd := ((some ⟨bkm8, 0, none⟩), nws)) (x := (Math.mapR (Math.mirVc vs i) nws)) 4 3 2 maK.ok rfl rfl rfl (fun h => by first | rfl | (dsimp only at h; rw [h]; rfl) | (rw [h]; rfl) | exact congrArg (fun m => [Value.slice _ m _]) h) mk41 (fun _ _ h => h.pick []) rfl rfl rfl rfl (by omega) ?_
           intro aq84 cq84
           refine stl (v := .slice _ _ _) 4 rfl Try.sizeOf41 (fun _ h => h.pick []) rfl rfl rfl rfl rfl (Nat.le_of_ble_eq_true rfl) ?_
           refine fld fl43_2 rfl rfl rfl ?_
           refine stf (v := .slice _ _ _) 4 rfl Try.sizeOf41 rfl rfl rfl rfl rfl (Nat.le_of_ble_eq_true rfl) ?_
           refine rNil ?_
           refine qSeq rfl ?_
           refine hReg (sq 0 (sq 1 sz)) (by kernel_rfl) ?_
           refine add rfl rfl rfl rfl (by omega) ?_
           refine mvI rfl rfl rfl ?_
           refine rNil ?_
           rw [Math.mirWs_snoc ws rfl, Math.mirVs_snoc vs rfl]
           exact qNext rfl ((i + 1, q + 1, ((aq83, cq83), (hset hd.2 (Math.mirWs ws nws i).length ((some ⟨bkm7, 0, none⟩), nws))), ((aq84, cq84), (hset he.2 (Math.mirVs vs nws i).length ((some ⟨bkm8, 0, none⟩), nws))))) (by dsimp only; omega) ⟨by dsimp only; omega, by dsimp only; omega⟩ ⟨rfl, rfl, rfl, rfl, rfl, rfl, trivial⟩ (fun _ h => h.pick [0, 0, 2, 2, 2, 2])
          ·
           refine bsl (fun _ _ h => h.pick []) rfl rfl rfl (bsl41_1 (.slice _ _ _) rfl) (fun bkl50 hbkl50 => ?_)
           refine ldl Try.isAgg41 (cB 6 rfl rfl) (fun _ h => h.pick []) rfl rfl rfl ?_
           refine apR (hd := ((some ⟨bkm7, 0, none⟩), nws)) (x := (Math.mapR (Math.mirWc ws i) nws)) 5 3 0 maK.ok rfl rfl rfl (fun h => by first | rfl | (dsimp only at h; rw [h]; rfl) | (rw [h]; rfl) | exact congrArg (fun m => [Value.slice _ m _]) h) mk41 (fun _ _ h => h.pick []) rfl rfl rfl rfl (by omega) ?_
           intro aq85 cq85
           refine fld fl43_1 rfl rfl rfl ?_
           refine apR (hd := ((some ⟨bkm8, 0, none⟩), nws)) (x := (Math.mapR (Math.mirVc vs i) nws)) 4 3 2 maK.ok rfl rfl rfl (fun h => by first | rfl | (dsimp only at h; rw [h]; rfl) | (rw [h]; rfl) | exact congrArg (fun m => [Value.slice _ m _]) h) mk41 (fun _ _ h => h.pick []) rfl rfl rfl rfl (by omega) ?_
           intro aq86 cq86
           refine stl (v := .slice _ _ _) 4 rfl Try.sizeOf41 (fun _ h => h.pick []) rfl rfl rfl rfl rfl (Nat.le_of_ble_eq_true rfl) ?_
           refine fld fl43_2 rfl rfl rfl ?_
           refine stf (v := .slice _ _ _) 4 rfl Try.sizeOf41 rfl rfl rfl rfl rfl (Nat.le_of_ble_eq_true rfl) ?_
           refine rNil ?_
           refine qSeq rfl ?_
           refine hReg (sq 0 (sq 1 sz)) (by kernel_rfl) ?_
           refine add rfl rfl rfl rfl (by omega) ?_
           refine mvI rfl rfl rfl ?_
           refine rNil ?_
           rw [Math.mirWs_snoc ws rfl, Math.mirVs_snoc vs rfl]
           exact qNext rfl ((i + 1, q + 1, ((aq85, cq85), (hset hd.2 (Math.mirWs ws nws i).length ((some ⟨bkm7, 0, none⟩), nws))), ((aq86, cq86), (hset he.2 (Math.mirVs vs nws i).length ((some ⟨bkm8, 0, none⟩), nws))))) (by dsimp only; omega) ⟨by dsimp only; omega, by dsimp only; omega⟩ ⟨rfl, rfl, rfl, rfl, rfl, rfl, trivial⟩ (fun _ h => h.pick [0, 0, 2, 2, 2, 2])
   ·
    refine mksI nws mk28 (fun _ _ h => h.pick []) rfl rfl rfl rfl (rfl) (by omega) (fun bkm51 hbkm51 => ?_)
    refine mksI nws mk28 (fun _ _ h => h.pick []) rfl rfl rfl rfl (rfl) (by omega) (fun bkm52 hbkm52 => ?_)
    refine asS rfl rfl rfl ?_
    refine asS rfl rfl rfl ?_
    refine rNil ?_
    refine qSeq rfl ?_
    refine hSeq ?_
    refine hSeq ?_
    refine hReg (sq 0 (sq 1 sz)) (by kernel_rfl) ?_
    refine mvI rfl rfl rfl ?_
    refine mvI rfl rfl rfl ?_
    refine rNil ?_
    refine qSeq rfl ?_
    refine hBlk ?_
    refine hLoop (α := Nat) (fun j => j ≤ nws) (fun j => nws - j) (fun j => [OwnI 2 (some ⟨bkm52, 0, none⟩) nws nws (((Math.mapR (Math.mirWc ws i) nws).take j ++ List.replicate (nws - j) 0)), OwnI 2 (some ⟨bkm51, 0, none⟩) nws nws (((Math.mapR (Math.mirVc vs i) nws).take j ++ List.replicate (nws - j) 0)), OwnR maK 28 2 he.1.1 q he.1.2 he.2 (Math.mirVs vs nws i), OwnR maK 28 2 hd.1.1 q hd.1.2 hd.2 (Math.mirWs ws nws i), blk bka4 43 [.slice ay1 ny1 cy1, .slice hd.1.1 q hd.1.2, .slice he.1.1 q he.1.2], OwnR ndK 88 2 ay1 ny1 cy1 Hy1 (z.map Math.mirN), blk bka2 43 [.slice none 0 0, .slice none 0 0, .slice none 0 0], blk bkb1 43 [.slice az nz cz, .slice aws nws cws, .slice avs nvs cvs]]) (fun j => [(1, .pointer (some ⟨bkb1, 0, none⟩)), (2, .pointer (some ⟨bka2, 0, none⟩)), (3, .pointer (some ⟨bka4, 0, none⟩)), (6, .int .i64 (nws : Int)), (7, .int .i64 (i : Int)), (8, .slice (some ⟨bkm52, 0, none⟩) nws nws), (9, .slice (some ⟨bkm51, 0, none⟩) nws nws), (71, .int .i64 (nws : Int)), (72, .int .i64 (i : Int)), (79, .int .i64 (nws : Int)), (80, .int .i64 (j : Int))]) 0 (Nat.zero_le _) (fun _ h => (by simp only [List.take_zero, List.nil_append, Nat.sub_zero]; exact h.pick [0, 0, 0, 0, 0, 0, 0, 0])) ⟨rfl, rfl, rfl, rfl, rfl, rfl, rfl, rfl, rfl, rfl, rfl, trivial⟩ ?_
    rintro j τ4 hj
    refine hSeq ?_
    refine hReg (sq 0 sz) (by kernel_rfl) ?_
    refine lss rfl rfl rfl rfl ?_
    refine rNil ?_
    refine qSeq rfl ?_
    refine hSeq ?_
    refine hIfD rfl (fun c10 => ?_) (fun c10 => ?_)
    ·
     replace c10 : (j : Int) < (nws : Int) := c10
     have hw1 := Math.row_len (Math.mat_row hG.2.2.1 (show j < nws by omega))
     have hv1 := Math.row_len (Math.mat_row hG.2.2.2.1 (show j < nws by omega))
     have hvr := Math.row_at (Math.mat_row hG.2.2.2.1 (show j < nws by omega)) (show i < nws by omega)
     refine hSkip ?_
     refine qSeq rfl ?_
     refine hSeq ?_
     refine hBlk ?_
     refine hSeq ?_
     refine hReg (sq 0 (sq 1 sz)) (by kernel_rfl) ?_
     refine mvI rfl rfl rfl ?_
     refine asI rfl rfl rfl ?_
     refine rNil ?_
     refine qSeq rfl ?_
     refine hDraw (Ls := [blk bkb1 43 [.slice az nz cz, .slice aws nws cws, .slice avs nvs cvs]]) (by kernel_rfl) (sq 0 (sq 1 (sq 2 (sq 3 (sq 4 (sq 5 (sq 6 (sq 7 (sq 8 (sq 9 (sq 10 (sq 11 (sq 12 (sq 13 (sq 14 (sq 15 (sq 16 (sq 17 (sq 18 (sq 19 (sq 20 (sq 21 (sl 22 (sq 23 (sf 24 sz))))))))))))))))))))))))) (by kernel_rfl) (.cons _ (.cons _ (.cons _ (.cons _ (.cons _ (.cons _ (.cons _ (.cons_cons _ .slnil)))))))) ?_
     refine mvS rfl rfl rfl ?_
     refine mvI rfl rfl rfl ?_
     refine mvS rfl rfl rfl ?_
     refine mvI rfl rfl rfl ?_
     refine fld fl43_1 rfl rfl rfl ?_
     refine ldq Try.isAgg41 (cB 0 rfl rfl) rfl rfl rfl ?_
     refine mvI rfl rfl rfl ?_
     refine ixRq (zn := j) (ws.getD j []) el41 (Kn.drop (k := 1) kws) (fun _ h => h.pick [7]) rfl rfl rfl rfl (by omega) (by omega) rfl (nth [] (by omega)) ?_
     intro be87 oe87 e87
     refine ldq Try.isAgg28 (Kn.fld e87 0 rfl) rfl rfl rfl ?_
     refine mvI rfl rfl rfl ?_
     refine ixIq (zn := i) el28 (Kn.drop (k := 1) ((Kn.imp kws fun _ h => h.kidM (nth [] (by omega))))) (fun _ h => h.pick [7]) rfl rfl rfl rfl (by omega) (by omega) rfl ?_
     intro ae88 e88
     refine ldq Try.isAgg2 (e88) rfl rfl rfl ?_
     refine fld fl43_2 rfl rfl rfl ?_
     refine ldq Try.isAgg41 (cB 0 rfl rfl) rfl rfl rfl ?_
     refine mvI rfl rfl rfl ?_
     refine ixRq (zn := j) (vs.getD j []) el41 (Kn.drop (k := 1) kvs) (fun _ h => h.pick [7]) rfl rfl rfl rfl (by omega) (by omega) rfl (nth [] (by omega)) ?_
     intro be89 oe89 e89
     refine ldq Try.isAgg28 (Kn.fld e89 0 rfl) rfl rfl rfl ?_
     refine mvI rfl rfl rfl ?_
     refine ixIq (zn := i) el28 (Kn.drop (k := 1) ((Kn.imp kvs fun _ h => h.kidM (nth [] (by omega))))) (fun _ h => h.pick [7]) rfl rfl rfl rfl (by omega) (by omega) rfl ?_
     intro ae90 e90
     refine ldq Try.isAgg2 (e90) rfl rfl rfl ?_
     refine neg rfl rfl rfl (by omega) ?_
     refine oxI (zn := j) 0 rfl el28 rfl rfl rfl rfl (by omega) (by omega) rfl ?_
     intro gk91 hgk91
     refine stoI (off := j) (x := ((ws.getD j []).getD i 0)) 0 rfl hgk91 Try.sizeOf2 (fun _ h => h.pick [7]) rfl rfl rfl rfl (by omega) ?_
     refine oxI (zn := j) 1 rfl el28 rfl rfl rfl rfl (by omega) (by omega) rfl ?_
     intro gk92 hgk92
     refine stoIF (off := j) (x := (-((vs.getD j []).getD i 0))) 1 rfl hgk92 Try.sizeOf2 rfl rfl rfl rfl (by omega) ?_
     refine rNil ?_
     refine qSeq rfl ?_
     refine hReg (sq 0 (sq 1 sz)) (by kernel_rfl) ?_
     refine add rfl rfl rfl rfl (by omega) ?_
     refine mvI rfl rfl rfl ?_
     refine rNil ?_
     rw [Math.fill_put 0 0 ((ws.getD j []).getD i 0) (Math.mapR_len (Math.mirWc ws i) nws) (by omega) (Math.mapR_get _ 0 (by omega)), Math.fill_put 0 0 (-(vs.getD j []).getD i 0) (Math.mapR_len (Math.mirVc vs i) nws) (by omega) (Math.mapR_get _ 0 (by omega))]
     exact qNext rfl (j + 1) (by omega) (by omega) ⟨rfl, rfl, rfl, rfl, rfl, rfl, rfl, rfl, rfl, rfl, rfl, trivial⟩ (fun _ h => h.pick [0, 0, 0, 0, 0, 0, 0, 0])
    ·
     replace c10 : ¬ ((j : Int) < (nws : Int)) := c10
     rw [Math.fill_end 0 (Math.mapR_len (Math.mirWc ws i) nws) (by omega)]
     rw [Math.fill_end 0 (Math.mapR_len (Math.mirVc vs i) nws) (by omega)]
     refine hExit rfl ?_
     refine qSeq rfl ?_
     refine hDraw (Ls := []) (by kernel_rfl) (sq 0 (sq 2 (sq 5 (sq 7 (.alt (sl 1 (.alt (sl 3 (.alt (sl 4 (.alt (sl 6 (sq 10 (sl 8 (sl 9 (sl 11 (sq 12 (sf 13 sz))))))) (sl 8 (sl 6 (sq 10 (sl 9 (sl 11 (sq 12 (sf 13 sz))))))))) (.alt (sl 6 (.alt (sl 4 (sq 10 (sl 8 (sl 9 (sl 11 (sq 12 (sf 13 sz))))))) (sl 8 (sl 4 (sq 10 (sl 9 (sl 11 (sq 12 (sf 13 sz))))))))) (sl 8 (.alt (sl 4 (sl 6 (sq 10 (sl 9 (sl 11 (sq 12 (sf 13 sz))))))) (sl 6 (sl 4 (sq 10 (sl 9 (sl 11 (sq 12 (sf 13 sz)))))))))))) (.alt (sl 6 (.alt (sl 3 (.alt (sl 4 (sq 10 (sl 8 (sl 9 (sl 11 (sq 12 (sf 13 sz))))))) (sl 8 (sl 4 (sq 10 (sl 9 (sl 11 (sq 12 (sf 13 sz))))))))) (sl 8 (sl 3 (sl 4 (sq 10 (sl 9 (sl 11 (sq 12 (sf 13 sz)))))))))) (sl 8 (.alt (sl 3 (.alt (sl 4 (sl 6 (sq 10 (sl 9 (sl 11 (sq 12 (sf 13 sz))))))) (sl 6 (sl 4 (sq 10 (sl 9 (sl 11 (sq 12 (sf 13 sz))))))))) (sl 6 (sl 3 (sl 4 (sq 10 (sl 9 (sl 11 (sq 12 (sf 13 sz))))))))))))) (.alt (sl 3 (.alt (sl 1 (.alt (sl 4 (.alt (sl 6 (sq 10 (sl 8 (sl 9 (sl 11 (sq 12 (sf 13 sz))))))) (sl 8 (sl 6 (sq 10 (sl 9 (sl 11 (sq 12 (sf 13 sz))))))))) (.alt (sl 6 (.alt (sl 4 (sq 10 (sl 8 (sl 9 (sl 11 (sq 12 (sf 13 sz))))))) (sl 8 (sl 4 (sq 10 (sl 9 (sl 11 (sq 12 (sf 13 sz))))))))) (sl 8 (.alt (sl 4 (sl 6 (sq 10 (sl 9 (sl 11 (sq 12 (sf 13 sz))))))) (sl 6 (sl 4 (sq 10 (sl 9 (sl 11 (sq 12 (sf 13 sz)))))))))))) (.alt (sl 6 (.alt (sl 1 (.alt (sl 4 (sq 10 (sl 8 (sl 9 (sl 11 (sq 12 (sf 13 sz))))))) (sl 8 (sl 4 (sq 10 (sl 9 (sl 11 (sq 12 (sf 13 sz))))))))) (sl 8 (sl 1 (sl 4 (sq 10 (sl 9 (sl 11 (sq 12 (sf 13 sz)))))))))) (sl 8 (.alt (sl 1 (.alt (sl 4 (sl 6 (sq 10 (sl 9 (sl 11 (sq 12 (sf 13 sz))))))) (sl 6 (sl 4 (sq 10 (sl 9 (sl 11 (sq 12 (sf 13 sz))))))))) (sl 6 (sl 1 (sl 4 (sq 10 (sl 9 (sl 11 (sq 12 (sf 13 sz))))))))))))) (.alt (sl 6 (.alt (sl 1 (.alt (sl 3 (.alt (sl 4 (sq 10 (sl 8 (sl 9 (sl 11 (sq 12 (sf 13 sz))))))) (sl 8 (sl 4 (sq 10 (sl 9 (sl 11 (sq 12 (sf 13 sz))))))))) (sl 8 (sl 3 (sl 4 (sq 10 (sl 9 (sl 11 (sq 12 (sf 13 sz)))))))))) (.alt (sl 3 (.alt (sl 1 (.alt (sl 4 (sq 10 (sl 8 (sl 9 (sl 11 (sq 12 (sf 13 sz))))))) (sl 8 (sl 4 (sq 10 (sl 9 (sl 11 (sq 12 (sf 13 sz))))))))) (sl 8 (sl 1 (sl 4 (sq 10 (sl 9 (sl 11 (sq 12 (sf 13 sz)))))))))) (sl 8 (.alt (sl 1 (sl 3 (sl 4 (sq 10 (sl 9 (sl 11 (sq 12 (sf 13 sz)))))))) (sl 3 (sl 1 (sl 4 (sq 10 (sl 9 (sl 11 (sq 12 (sf 13 sz))))))))))))) (sl 8 (.alt (sl 1 (.alt (sl 3 (.alt (sl 4 (sl 6 (sq 10 (sl 9 (sl 11 (sq 12 (sf 13 sz))))))) (sl 6 (sl 4 (sq 10 (sl 9 (sl 11 (sq 12 (sf 13 sz))))))))) (sl 6 (sl 3 (sl 4 (sq 10 (sl 9 (sl 11 (sq 12 (sf 13 sz)))))))))) (.alt (sl 3 (.alt (sl 1 (.alt (sl 4 (sl 6 (sq 10 (sl 9 (sl 11 (sq 12 (sf 13 sz))))))) (sl 6 (sl 4 (sq 10 (sl 9 (sl 11 (sq 12 (sf 13 sz))))))))) (sl 6 (sl 1 (sl 4 (sq 10 (sl 9 (sl 11 (sq 12 (sf 13 sz)))))))))) (sl 6 (.alt (sl 1 (sl 3 (sl 4 (sq 10 (sl 9 (sl 11 (sq 12 (sf 13 sz)))))))) (sl 3 (sl 1 (sl 4 (sq 10 (sl 9 (sl 11 (sq 12 (sf 13 sz)))))))))))))))))))) (by kernel_rfl) (.cons _ (.cons _ (.cons _ (.cons _ (.cons _ (.cons _ (.cons _ (.cons _ .slnil)))))))) ?_
     refine fld fl43_1 rfl rfl rfl ?_
     refine mvS rfl rfl rfl ?_
     refine fld fl43_2 rfl rfl rfl ?_
     refine mvS rfl rfl rfl ?_
     refine rAlt ?_ ?_
     ·
      refine ldl Try.isAgg41 (cB 4 rfl rfl) (fun _ h => h.pick []) rfl rfl rfl ?_
      refine rAlt ?_ ?_
      ·
       refine bsl (fun _ _ h => h.pick []) rfl rfl rfl (bsl41_1 (.slice _ _ _) rfl) (fun bkl53 hbkl53 => ?_)
       refine rAlt ?_ ?_
       ·
        refine apR (hd := ((some ⟨bkm52, 0, none⟩), nws)) (x := (Math.mapR (Math.mirWc ws i) nws)) 4 1 0 maK.ok rfl rfl rfl (fun h => by first | rfl | (dsimp only at h; rw [h]; rfl) | (rw [h]; rfl) | exact congrArg (fun m => [Value.slice _ m _]) h) mk41 (fun _ _ h => h.pick []) rfl rfl rfl rfl (by omega) ?_
        intro aq93 cq93
        refine rAlt ?_ ?_
        ·
         refine ldl Try.isAgg41 (cB 4 rfl rfl) (fun _ h => h.pick []) rfl rfl rfl ?_
         refine fld fl43_1 rfl rfl rfl ?_
         refine bsl (fun _ _ h => h.pick []) rfl rfl rfl (bsl41_1 (.slice _ _ _) rfl) (fun bkl54 hbkl54 => ?_)
         refine apR (hd := ((some ⟨bkm51, 0, none⟩), nws)) (x := (Math.mapR (Math.mirVc vs i) nws)) 4 3 0 maK.ok rfl rfl rfl (fun h => by first | rfl | (dsimp only at h; rw [h]; rfl) | (rw [h]; rfl) | exact congrArg (fun m => [Value.slice _ m _]) h) mk41 (fun _ _ h => h.pick []) rfl rfl rfl rfl (by omega) ?_
         intro aq94 cq94
         refine stl (v := .slice _ _ _) 4 rfl Try.sizeOf41 (fun _ h => h.pick []) rfl rfl rfl rfl rfl (Nat.le_of_ble_eq_true rfl) ?_
         refine fld fl43_2 rfl rfl rfl ?_
         refine stf (v := .slice _ _ _) 4 rfl Try.sizeOf41 rfl rfl rfl rfl rfl (Nat.le_of_ble_eq_true rfl) ?_
         refine rNil ?_
         refine qSeq rfl ?_
         refine hReg (sq 0 (sq 1 sz)) (by kernel_rfl) ?_
         refine add rfl rfl rfl rfl (by omega) ?_
         refine mvI rfl rfl rfl ?_
         refine rNil ?_
         rw [Math.mirWs_snoc ws rfl, Math.mirVs_snoc vs rfl]
         exact qNext rfl ((i + 1, q + 1, ((aq93, cq93), (hset hd.2 (Math.mirWs ws nws i).length ((some ⟨bkm52, 0, none⟩), nws))), ((aq94, cq94), (hset he.2 (Math.mirVs vs nws i).length ((some ⟨bkm51, 0, none⟩), nws))))) (by dsimp only; omega) ⟨by dsimp only; omega, by dsimp only; omega⟩ ⟨rfl, rfl, rfl, rfl, rfl, rfl, trivial⟩ (fun _ h => h.pick [0, 1, 2, 2, 2, 2])
        ·
         refine bsl (fun _ _ h => h.pick []) rfl rfl rfl (bsl41_1 (.slice _ _ _) rfl) (fun bkl55 hbkl55 => ?_)
         refine ldl Try.isAgg41 (cB 5 rfl rfl) (fun _ h => h.pick []) rfl rfl rfl ?_
         refine fld fl43_1 rfl rfl rfl ?_
         refine apR (hd := ((some ⟨bkm51, 0, none⟩), nws)) (x := (Math.mapR (Math.mirVc vs i) nws)) 4 3 0 maK.ok rfl rfl rfl (fun h => by first | rfl | (dsimp only at h; rw [h]; rfl) | (rw [h]; rfl) | exact congrArg (fun m => [Value.slice _ m _]) h) mk41 (fun _ _ h => h.pick []) rfl rfl rfl rfl (by omega) ?_
         intro aq95 cq95
         refine stl (v := .slice _ _ _) 4 rfl Try.sizeOf41 (fun _ h => h.pick []) rfl rfl rfl rfl rfl (Nat.le_of_ble_eq_true rfl) ?_
         refine fld fl43_2 rfl rfl rfl ?_
         refine stf (v := .slice _ _ _) 4 rfl Try.sizeOf41 rfl rfl rfl rfl rfl (Nat.le_of_ble_eq_true rfl) ?_
         refine rNil ?_
         refine qSeq rfl ?_
         refine hReg (sq 0 (sq 1 sz)) (by kernel_rfl) ?_
         refine add rfl rfl rfl rfl (by omega) ?_
         refine mvI rfl rfl rfl ?_
         refine rNil ?_
         rw [Math.mirWs_snoc ws rfl, Math.mirVs_snoc vs rfl]
         exact qNext rfl ((i + 1, q + 1, ((aq93, cq93), (hset hd.2 (Math.mirWs ws nws i).length ((some ⟨bkm52, 0, none⟩), nws))), ((aq95, cq95), (hset he.2 (Math.mirVs vs nws i).length ((some ⟨bkm51, 0, none⟩), nws))))) (by dsimp only; omega) ⟨by dsimp only; omega, by dsimp only; omega⟩ ⟨rfl, rfl, rfl, rfl, rfl, rfl, trivial⟩ (fun _ h => h.pick [0, 1, 2, 2, 2, 2])
       ·
        refine rAlt ?_ ?_
        ·
         refine ldl Try.isAgg41 (cB 5 rfl rfl) (fun _ h => h.pick []) rfl rfl rfl ?_
         refine rAlt ?_ ?_
         ·
          refine apR (hd := ((some ⟨bkm52, 0, none⟩), nws)) (x := (Math.mapR (Math.mirWc ws i) nws)) 4 1 0 maK.ok rfl rfl rfl (fun h => by first | rfl | (dsimp only at h; rw [h]; rfl) | (rw [h]; rfl) | exact congrArg (fun m => [Value.slice _ m _]) h) mk41 (fun _ _ h => h.pick []) rfl rfl rfl rfl (by omega) ?_
          intro aq96 cq96
          refine fld fl43_1 rfl rfl rfl ?_
          refine bsl (fun _ _ h => h.pick []) rfl rfl rfl (bsl41_1 (.slice _ _ _) rfl) (fun bkl56 hbkl56 => ?_)
          refine apR (hd := ((some ⟨bkm51, 0, none⟩), nws)) (x := (Math.mapR (Math.mirVc vs i) nws)) 4 3 0 maK.ok rfl rfl rfl (fun h => by first | rfl | (dsimp only at h; rw [h]; rfl) | (rw [h]; rfl) | exact congrArg (fun m => [Value.slice _ m _]) h) mk41 (fun _ _ h => h.pick []) rfl rfl rfl rfl (by omega) ?_
          intro aq97 cq97
          refine stl (v := .slice _ _ _) 4 rfl Try.sizeOf41 (fun _ h => h.pick []) rfl rfl rfl rfl rfl (Nat.le_of_ble_eq_true rfl) ?_
          refine fld fl43_2 rfl rfl rfl ?_
          refine stf (v := .slice _ _ _) 4 rfl Try.sizeOf41 rfl rfl rfl rfl rfl (Nat.le_of_ble_eq_true rfl) ?_
          refine rNil ?_
          refine qSeq rfl ?_
          refine hReg (sq 0 (sq 1 sz)) (by kernel_rfl) ?_
          refine add rfl rfl rfl rfl (by omega) ?_
          refine mvI rfl rfl rfl ?_
          refine rNil ?_
          rw [Math.mirWs_snoc ws rfl, Math.mirVs_snoc vs rfl]
          exact qNext rfl ((i + 1, q + 1, ((aq96, cq96), (hset hd.2 (Math.mirWs ws nws i).length ((some ⟨bkm52, 0, none⟩), nws))), ((aq97, cq97), (hset he.2 (Math.mirVs vs nws i).length ((some ⟨bkm51, 0, none⟩), nws))))) (by dsimp only; omega) ⟨by dsimp only; omega, by dsimp only; omega⟩ ⟨rfl, rfl, rfl, rfl, rfl, rfl, trivial⟩ (fun _ h => h.pick [0, 1, 2, 2, 2, 2])
         ·
          refine bsl (fun _ _ h => h.pick []) rfl rfl rfl (bsl41_1 (.slice _ _ _) rfl) (fun bkl57 hbkl57 => ?_)
          refine apR (hd := ((some ⟨bkm52, 0, none⟩), nws)) (x := (Math.mapR (Math.mirWc ws i) nws)) 5 2 1 maK.ok rfl rfl rfl (fun h => by first | rfl | (dsimp only at h; rw [h]; rfl) | (rw [h]; rfl) | exact congrArg (fun m => [Value.slice _ m _]) h) mk41 (fun _ _ h => h.pick []) rfl rfl rfl rfl (by omega) ?_
          intro aq98 cq98
          refine fld fl43_1 rfl rfl rfl ?_
          refine apR (hd := ((some ⟨bkm51, 0, none⟩), nws)) (x := (Math.mapR (Math.mirVc vs i) nws)) 4 3 1 maK.ok rfl rfl rfl (fun h => by first | rfl | (dsimp only at h; rw [h]; rfl) | (rw [h]; rfl) | exact congrArg (fun m => [Value.slice _ m _]) h) mk41 (fun _ _ h => h.pick []) rfl rfl rfl rfl (by omega) ?_
          intro aq99 cq99
          refine stl (v := .slice _ _ _) 4 rfl Try.sizeOf41 (fun _ h => h.pick []) rfl rfl rfl rfl rfl (Nat.le_of_ble_eq_true rfl) ?_
          refine fld fl43_2 rfl rfl rfl ?_
          refine stf (v := .slice _ _ _) 4 rfl Try.sizeOf41 rfl rfl rfl rfl rfl (Nat.le_of_ble_eq_true rfl) ?_
          refine rNil ?_
          refine qSeq rfl ?_
          refine hReg (sq 0 (sq 1 sz)) (by kernel_rfl) ?_
          refine add rfl rfl rfl rfl (by omega) ?_
          refine mvI rfl rfl rfl ?_
          refine rNil ?_
          rw [Math.mirWs_snoc ws rfl, Math.mirVs_snoc vs rfl]
          exact qNext rfl ((i + 1, q + 1, ((aq98, cq98), (hset hd.2 (Math.mirWs ws nws i).length ((some ⟨bkm52, 0, none⟩), nws))), ((aq99, cq99), (hset he.2 (Math.mirVs vs nws i).length ((some ⟨bkm51, 0, none⟩), nws))))) (by dsimp only; omega) ⟨by dsimp only; omega, by dsimp only; omega⟩ ⟨rfl, rfl, rfl, rfl, rfl, rfl, trivial⟩ (fun _ h => h.pick [0, 0, 2, 2, 2, 2])
        ·
         refine bsl (fun _ _ h => h.pick []) rfl rfl rfl (bsl41_1 (.slice _ _ _) rfl) (fun bkl58 hbkl58 => ?_)
         refine rAlt ?_ ?_
         ·
          refine apR (hd := ((some ⟨bkm52, 0, none⟩), nws)) (x := (Math.mapR (Math.mirWc ws i) nws)) 5 2 1 maK.ok rfl rfl rfl (fun h => by first | rfl | (dsimp only at h; rw [h]; rfl) | (rw [h]; rfl) | exact congrArg (fun m => [Value.slice _ m _]) h) mk41 (fun _ _ h => h.pick []) rfl rfl rfl rfl (by omega) ?_
          intro aq100 cq100
          refine ldl Try.isAgg41 (cB 5 rfl rfl) (fun _ h => h.pick []) rfl rfl rfl ?_
          refine fld fl43_1 rfl rfl rfl ?_
          refine apR (hd := ((some ⟨bkm51, 0, none⟩), nws)) (x := (Math.mapR (Math.mirVc vs i) nws)) 4 3 1 maK.ok rfl rfl rfl (fun h => by first | rfl | (dsimp only at h; rw [h]; rfl) | (rw [h]; rfl) | exact congrArg (fun m => [Value.slice _ m _]) h) mk41 (fun _ _ h => h.pick []) rfl rfl rfl rfl (by omega) ?_
          intro aq101 cq101
          refine stl (v := .slice _ _ _) 4 rfl Try.sizeOf41 (fun _ h => h.pick []) rfl rfl rfl rfl rfl (Nat.le_of_ble_eq_true rfl) ?_
          refine fld fl43_2 rfl rfl rfl ?_
          refine stf (v := .slice _ _ _) 4 rfl Try.sizeOf41 rfl rfl rfl rfl rfl (Nat.le_of_ble_eq_true rfl) ?_
          refine rNil ?_
          refine qSeq rfl ?_
          refine hReg (sq 0 (sq 1 sz)) (by kernel_rfl) ?_
          refine add rfl rfl rfl rfl (by omega) ?_
          refine mvI rfl rfl rfl ?_
          refine rNil ?_
          rw [Math.mirWs_snoc ws rfl, Math.mirVs_snoc vs rfl]
          exact qNext rfl ((i + 1, q + 1, ((aq100, cq100), (hset hd.2 (Math.mirWs ws nws i).length ((some ⟨bkm52, 0, none⟩), nws))), ((aq101, cq101), (hset he.2 (Math.mirVs vs nws i).length ((some ⟨bkm51, 0, none⟩), nws))))) (by dsimp only; omega) ⟨by dsimp only; omega, by dsimp only; omega⟩ ⟨rfl, rfl, rfl, rfl, rfl, rfl, trivial⟩ (fun _ h => h.pick [0, 0, 2, 2, 2, 2])
         ·
          refine ldl Try.isAgg41 (cB 6 rfl rfl) (fun _ h => h.pick []) rfl rfl rfl ?_
          refine apR (hd := ((some ⟨bkm52, 0, none⟩), nws)) (x := (Math.mapR (Math.mirWc ws i) nws)) 5 2 1 maK.ok rfl rfl rfl (fun h => by first | rfl | (dsimp only at h; rw [h]; rfl) | (rw [h]; rfl) | exact congrArg (fun m => [Value.slice _ m _]) h) mk41 (fun _ _ h => h.pick []) rfl rfl rfl rfl (by omega) ?_
          intro aq102 cq102
          refine fld fl43_1 rfl rfl rfl ?_
          refine apR (hd := ((some ⟨bkm51, 0, none⟩), nws)) (x := (Math.mapR (Math.mirVc vs i) nws)) 4 3 1 maK.ok rfl rfl rfl (fun h => by first | rfl | (dsimp only at h; rw [h]; rfl) | (rw [h]; rfl) | exact congrArg (fun m => [Value.slice _ m _]) h) mk41 (fun _ _ h => h.pick []) rfl rfl rfl rfl (by omega) ?_
          intro aq103 cq103
          refine stl (v := .slice _ _ _) 4 rfl Try.sizeOf41 (fun _ h => h.pick []) rfl rfl rfl rfl rfl (Nat.le_of_ble_eq_true rfl) ?_
          refine fld fl43_2 rfl rfl rfl ?_
          refine stf (v := .slice _ _ _) 4 rfl Try.sizeOf41 rfl rfl rfl rfl rfl (Nat.le_of_ble_eq_true rfl) ?_
          refine rNil ?_
          refine qSeq rfl ?_
          refine hReg (sq 0 (sq 1 sz)) (by kernel_rfl) ?_
          refine add rfl rfl rfl rfl (by omega) ?_
          refine mvI rfl rfl rfl ?_
          refine rNil ?_
          rw [Math.mirWs_snoc ws rfl, Math.mirVs_snoc vs rfl]
          exact qNext rfl ((i + 1, q + 1, ((aq102, cq102), (hset hd.2 (Math.mirWs ws nws i).length ((some ⟨bkm52, 0, none⟩), nws))), ((aq103, cq103), (hset he.2 (Math.mirVs vs nws i).length ((some ⟨bkm51, 0, none⟩), nws))))) (by dsimp only; omega) ⟨by dsimp only; omega, by dsimp only; omega⟩ ⟨rfl, rfl, rfl, rfl, rfl, rfl, trivial⟩ (fun _ h => h.pick [0, 0, 2, 2, 2, 2])
      ·
       refine rAlt ?_ ?_
       ·
        refine ldl Try.isAgg41 (cB 4 rfl rfl) (fun _ h => h.pick []) rfl rfl rfl ?_
        refine rAlt ?_ ?_
        ·
         refine bsl (fun _ _ h => h.pick []) rfl rfl rfl (bsl41_1 (.slice _ _ _) rfl) (fun bkl59 hbkl59 => ?_)
         refine rAlt ?_ ?_
         ·
          refine apR (hd := ((some ⟨bkm52, 0, none⟩), nws)) (x := (Math.mapR (Math.mirWc ws i) nws)) 4 1 0 maK.ok rfl rfl rfl (fun h => by first | rfl | (dsimp only at h; rw [h]; rfl) | (rw [h]; rfl) | exact congrArg (fun m => [Value.slice _ m _]) h) mk41 (fun _ _ h => h.pick []) rfl rfl rfl rfl (by omega) ?_
          intro aq104 cq104
          refine fld fl43_1 rfl rfl rfl ?_
          refine bsl (fun _ _ h => h.pick []) rfl rfl rfl (bsl41_1 (.slice _ _ _) rfl) (fun bkl60 hbkl60 => ?_)
          refine apR (hd := ((some ⟨bkm51, 0, none⟩), nws)) (x := (Math.mapR (Math.mirVc vs i) nws)) 4 3 0 maK.ok rfl rfl rfl (fun h => by first | rfl | (dsimp only at h; rw [h]; rfl) | (rw [h]; rfl) | exact congrArg (fun m => [Value.slice _ m _]) h) mk41 (fun _ _ h => h.pick []) rfl rfl rfl rfl (by omega) ?_
          intro aq105 cq105
          refine stl (v := .slice _ _ _) 4 rfl Try.sizeOf41 (fun _ h => h.pick []) rfl rfl rfl rfl rfl (Nat.le_of_ble_eq_true rfl) ?_
          refine fld fl43_2 rfl rfl rfl ?_
          refine stf (v := .slice _ _ _) 4 rfl Try.sizeOf41 rfl rfl rfl rfl rfl (Nat.le_of_ble_eq_true rfl) ?_
          refine rNil ?_
          refine qSeq rfl ?_
          refine hReg (sq 0 (sq 1 sz)) (by kernel_rfl) ?_
          refine add rfl rfl rfl rfl (by omega) ?_
          refine mvI rfl rfl rfl ?_
          refine rNil ?_
          rw [Math.mirWs_snoc ws rfl, Math.mirVs_snoc vs rfl]
          exact qNext rfl ((i + 1, q + 1, ((aq104, cq104), (hset hd.2 (Math.mirWs ws nws i).length ((some ⟨bkm52, 0, none⟩), nws))), ((aq105, cq105), (hset he.2 (Math.mirVs vs nws i).length ((some ⟨bkm51, 0, none⟩), nws))))) (by dsimp only; omega) ⟨by dsimp only; omega, by dsimp only; omega⟩ ⟨rfl, rfl, rfl, rfl, rfl, rfl, trivial⟩ (fun _ h => h.pick [0, 1, 2, 2, 2, 2])
         ·
          refine bsl (fun _ _ h => h.pick []) rfl rfl rfl (bsl41_1 (.slice _ _ _) rfl) (fun bkl61 hbkl61 => ?_)
          refine apR (hd := ((some ⟨bkm52, 0, none⟩), nws)) (x := (Math.mapR (Math.mirWc ws i) nws)) 5 2 1 maK.ok rfl rfl rfl (fun h => by first | rfl | (dsimp only at h; rw [h]; rfl) | (rw [h]; rfl) | exact congrArg (fun m => [Value.slice _ m _]) h) mk41 (fun _ _ h => h.pick []) rfl rfl rfl rfl (by omega) ?_
          intro aq106 cq106
          refine fld fl43_1 rfl rfl rfl ?_
          refine apR (hd := ((some ⟨bkm51, 0, none⟩), nws)) (x := (Math.mapR (Math.mirVc vs i) nws)) 4 3 1 maK.ok rfl rfl rfl (fun h => by first | rfl | (dsimp only at h; rw [h]; rfl) | (rw [h]; rfl) | exact congrArg (fun m => [Value.slice _ m _]) h) mk41 (fun _ _ h => h.pick []) rfl rfl rfl rfl (by omega) ?_
          intro aq107 cq107
          refine stl (v := .slice _ _ _) 4 rfl Try.sizeOf41 (fun _ h => h.pick []) rfl rfl rfl rfl rfl (Nat.le_of_ble_eq_true rfl) ?_
          refine fld fl43_2 rfl rfl rfl ?_
          refine stf (v := .slice _ _ _) 4 rfl Try.sizeOf41 rfl rfl rfl rfl rfl (Nat.le_of_ble_eq_true rfl) ?_
          refine rNil ?_
          refine qSeq rfl ?_
          refine hReg (sq 0 (sq 1 sz)) (by kernel_rfl) ?_
          refine add rfl rfl rfl rfl (by omega) ?_
          refine mvI rfl rfl rfl ?_
          refine rNil ?_
          rw [Math.mirWs_snoc ws rfl, Math.mirVs_snoc vs rfl]
          exact qNext rfl ((i + 1, q + 1, ((aq106, cq106), (hset hd.2 (Math.mirWs ws nws i).length ((some ⟨bkm52, 0, none⟩), nws))), ((aq107, cq107), (hset he.2 (Math.mirVs vs nws i).length ((some ⟨bkm51, 0, none⟩), nws))))) (by dsimp only; omega) ⟨by dsimp only; omega, by dsimp only; omega⟩ ⟨rfl, rfl, rfl, rfl, rfl, rfl, trivial⟩ (fun _ h => h.pick [0, 0, 2, 2, 2, 2])
        ·
         refine bsl (fun _ _ h => h.pick []) rfl rfl rfl (bsl41_1 (.slice _ _ _) rfl) (fun bkl62 hbkl62 => ?_)
         refine bsl (fun _ _ h => h.pick []) rfl rfl rfl (bsl41_1 (.slice _ _ _) rfl) (fun bkl63 hbkl63 => ?_)
         refine apR (hd := ((some ⟨bkm52, 0, none⟩), nws)) (x := (Math.mapR (Math.mirWc ws i) nws)) 5 2 0 maK.ok rfl rfl rfl (fun h => by first | rfl | (dsimp only at h; rw [h]; rfl) | (rw [h]; rfl) | exact congrArg (fun m => [Value.slice _ m _]) h) mk41 (fun _ _ h => h.pick []) rfl rfl rfl rfl (by omega) ?_
         intro aq108 cq108
         refine fld fl43_1 rfl rfl rfl ?_
         refine apR (hd := ((some ⟨bkm51, 0, none⟩), nws)) (x := (Math.mapR (Math.mirVc vs i) nws)) 4 3 2 maK.ok rfl rfl rfl (fun h => by first | rfl | (dsimp only at h; rw [h]; rfl) | (rw [h]; rfl) | exact congrArg (fun m => [Value.slice _ m _]) h) mk41 (fun _ _ h => h.pick []) rfl rfl rfl rfl (by omega) ?_
         intro aq109 cq109
         refine stl (v := .slice _ _ _) 4 rfl Try.sizeOf41 (fun _ h => h.pick []) rfl rfl rfl rfl rfl (Nat.le_of_ble_eq_true rfl) ?_
         refine fld fl43_2 rfl rfl rfl ?_
         refine stf (v := .slice _ _ _) 4 rfl Try.sizeOf41 rfl rfl rfl rfl rfl (Nat.le_of_ble_eq_true rfl) ?_
         refine rNil ?_
         refine qSeq rfl ?_
         refine hReg (sq 0 (sq 1 sz)) (by kernel_rfl) ?_
         refine add rfl rfl rfl rfl (by omega) ?_
         refine mvI rfl rfl rfl ?_
         refine rNil ?_
         rw [Math.mirWs_snoc ws rfl, Math.mirVs_snoc vs rfl]
         exact qNext rfl ((i + 1, q + 1, ((aq108, cq108), (hset hd.2 (Math.mirWs ws nws i).length ((some ⟨bkm52, 0, none⟩), nws))), ((aq109, cq109), (hset he.2 (Math.mirVs vs nws i).length ((some ⟨bkm51, 0, none⟩), nws))))) (by dsimp only; omega) ⟨by dsimp only; omega, by dsimp only; omega⟩ ⟨rfl, rfl, rfl, rfl, rfl, rfl, trivial⟩ (fun _ h => h.pick [0, 0, 2, 2, 2, 2])
       ·
        refine bsl (fun _ _ h => h.pick []) rfl rfl rfl (bsl41_1 (.slice _ _ _) rfl) (fun bkl64 hbkl64 => ?_)
        refine rAlt ?_ ?_
        ·
         refine bsl (fun _ _ h => h.pick []) rfl rfl rfl (bsl41_1 (.slice _ _ _) rfl) (fun bkl65 hbkl65 => ?_)
         refine rAlt ?_ ?_
         ·
          refine apR (hd := ((some ⟨bkm52, 0, none⟩), nws)) (x := (Math.mapR (Math.mirWc ws i) nws)) 5 2 0 maK.ok rfl rfl rfl (fun h => by first | rfl | (dsimp only at h; rw [h]; rfl) | (rw [h]; rfl) | exact congrArg (fun m => [Value.slice _ m _]) h) mk41 (fun _ _ h => h.pick []) rfl rfl rfl rfl (by omega) ?_
          intro aq110 cq110
          refine ldl Try.isAgg41 (cB 5 rfl rfl) (fun _ h => h.pick []) rfl rfl rfl ?_
          refine fld fl43_1 rfl rfl rfl ?_
          refine apR (hd := ((some ⟨bkm51, 0, none⟩), nws)) (x := (Math.mapR (Math.mirVc vs i) nws)) 4 3 2 maK.ok rfl rfl rfl (fun h => by first | rfl | (dsimp only at h; rw [h]; rfl) | (rw [h]; rfl) | exact congrArg (fun m => [Value.slice _ m _]) h) mk41 (fun _ _ h => h.pick []) rfl rfl rfl rfl (by omega) ?_
          intro aq111 cq111
          refine stl (v := .slice _ _ _) 4 rfl Try.sizeOf41 (fun _ h => h.pick []) rfl rfl rfl rfl rfl (Nat.le_of_ble_eq_true rfl) ?_
          refine fld fl43_2 rfl rfl rfl ?_
          refine stf (v := .slice _ _ _) 4 rfl Try.sizeOf41 rfl rfl rfl rfl rfl (Nat.le_of_ble_eq_true rfl) ?_
          refine rNil ?_
          refine qSeq rfl ?_
          refine hReg (sq 0 (sq 1 sz)) (by kernel_rfl) ?_
          refine add rfl rfl rfl rfl (by omega) ?_
          refine mvI rfl rfl rfl ?_
          refine rNil ?_
          rw [Math.mirWs_snoc ws rfl, Math.mirVs_snoc vs rfl]
          exact qNext rfl ((i + 1, q + 1, ((aq110, cq110), (hset hd.2 (Math.mirWs ws nws i).length ((some ⟨bkm52, 0, none⟩), nws))), ((aq111, cq111), (hset he.2 (Math.mirVs vs nws i).length ((some ⟨bkm51, 0, none⟩), nws))))) (by dsimp only; omega) ⟨by dsimp only; omega, by dsimp only; omega⟩ ⟨rfl, rfl, rfl, rfl, rfl, rfl, trivial⟩ (fun _ h => h.pick [0, 0, 2, 2, 2, 2])
         ·
          refine ldl Try.isAgg41 (cB 6 rfl rfl) (fun _ h => h.pick []) rfl rfl rfl ?_
          refine apR (hd := ((some ⟨bkm52, 0, none⟩), nws)) (x := (Math.mapR (Math.mirWc ws i) nws)) 5 2 0 maK.ok rfl rfl rfl (fun h => by first | rfl | (dsimp only at h; rw [h]; rfl) | (rw [h]; rfl) | exact congrArg (fun m => [Value.slice _ m _]) h) mk41 (fun _ _ h => h.pick []) rfl rfl rfl rfl (by omega) ?_
          intro aq112 cq112
          refine fld fl43_1 rfl rfl rfl ?_
          refine apR (hd := ((some ⟨bkm51, 0, none⟩), nws)) (x := (Math.mapR (Math.mirVc vs i) nws)) 4 3 2 maK.ok rfl rfl rfl (fun h => by first | rfl | (dsimp only at h; rw [h]; rfl) | (rw [h]; rfl) | exact congrArg (fun m => [Value.slice _ m _]) h) mk41 (fun _ _ h => h.pick []) rfl rfl rfl rfl (by omega) ?_
          intro aq113 cq113
          refine stl (v := .slice _ _ _) 4 rfl Try.sizeOf41 (fun _ h => h.pick []) rfl rfl rfl rfl rfl (Nat.le_of_ble_eq_true rfl) ?_
          refine fld fl43_2 rfl rfl rfl ?_
          refine stf (v := .slice _ _ _) 4 rfl Try.sizeOf41 rfl rfl rfl rfl rfl (Nat.le_of_ble_eq_true rfl) ?_
          refine rNil ?_
          refine qSeq rfl ?_
          refine hReg (sq 0 (sq 1 sz)) (by kernel_rfl) ?_
          refine add rfl rfl rfl rfl (by omega) ?_
          refine mvI rfl rfl rfl ?_
          refine rNil ?_
          rw [Math.mirWs_snoc ws rfl, Math.mirVs_snoc vs rfl]
          exact qNext rfl ((i + 1, q + 1, ((aq112, cq112), (hset hd.2 (Math.mirWs ws nws i).length ((some ⟨bkm52, 0, none⟩), nws))), ((aq113, cq113), (hset he.2 (Math.mirVs vs nws i).length ((some ⟨bkm51, 0, none⟩), nws))))) (by dsimp only; omega) ⟨by dsimp only; omega, by dsimp only; omega⟩ ⟨rfl, rfl, rfl, rfl, rfl, rfl, trivial⟩ (fun _ h => h.pick [0, 0, 2, 2, 2, 2])
        ·
         refine ldl Try.isAgg41 (cB 5 rfl rfl) (fun _ h => h.pick []) rfl rfl rfl ?_
         refine bsl (fun _ _ h => h.pick []) rfl rfl rfl (bsl41_1 (.slice _ _ _) rfl) (fun bkl66 hbkl66 => ?_)
         refine apR (hd := ((some ⟨bkm52, 0, none⟩), nws)) (x := (Math.mapR (Math.mirWc ws i) nws)) 5 2 0 maK.ok rfl rfl rfl (fun h => by first | rfl | (dsimp only at h; rw [h]; rfl) | (rw [h]; rfl) | exact congrArg (fun m => [Value.slice _ m _]) h) mk41 (fun _ _ h => h.pick []) rfl rfl rfl rfl (by omega) ?_
         intro aq114 cq114
         refine fld fl43_1 rfl rfl rfl ?_
         refine apR (hd := ((some ⟨bkm51, 0, none⟩), nws)) (x := (Math.mapR (Math.mirVc vs i) nws)) 4 3 2 maK.ok rfl rfl rfl (fun h => by first | rfl | (dsimp only at h; rw [h]; rfl) | (rw [h]; rfl) | exact congrArg (fun m => [Value.slice _ m _]) h) mk41 (fun _ _ h => h.pick []) rfl rfl rfl rfl (by omega) ?_
         intro aq115 cq115
         refine stl (v := .slice _ _ _) 4 rfl Try.sizeOf41 (fun _ h => h.pick []) rfl rfl rfl rfl rfl (Nat.le_of_ble_eq_true rfl) ?_
         refine fld fl43_2 rfl rfl rfl ?_
         refine stf (v := .slice _ _ _) 4 rfl Try.sizeOf41 rfl rfl rfl rfl rfl (Nat.le_of_ble_eq_true rfl) ?_
         refine rNil ?_
         refine qSeq rfl ?_
         refine hReg (sq 0 (sq 1 sz)) (by kernel_rfl) ?_
         refine add rfl rfl rfl rfl (by omega) ?_
         refine mvI rfl rfl rfl ?_
         refine rNil ?_
         rw [Math.mirWs_snoc ws rfl, Math.mirVs_snoc vs rfl]
         exact qNext rfl ((i + 1, q + 1, ((aq114, cq114), (hset hd.2 (Math.mirWs ws nws i).length ((some ⟨bkm52, 0, none⟩), nws))), ((aq115, cq115), (hset he.2 (Math.mirVs vs nws i).length ((some ⟨bkm51, 0, none⟩), nws))))) (by dsimp only; omega) ⟨by dsimp only; omega, by dsimp only; omega⟩ ⟨rfl, rfl, rfl, rfl, rfl, rfl, trivial⟩ (fun _ h => h.pick [0, 0, 2, 2, 2, 2])
     ·
      refine rAlt ?_ ?_
      ·
       refine bsl (fun _ _ h => h.pick []) rfl rfl rfl (bsl41_1 (.slice _ _ _) rfl) (fun bkl67 hbkl67 => ?_)
       refine rAlt ?_ ?_
       ·
        refine ldl Try.isAgg41 (cB 5 rfl rfl) (fun _ h => h.pick []) rfl rfl rfl ?_
        refine rAlt ?_ ?_
        ·
         refine apR (hd := ((some ⟨bkm52, 0, none⟩), nws)) (x := (Math.mapR (Math.mirWc ws i) nws)) 4 1 0 maK.ok rfl rfl rfl (fun h => by first | rfl | (dsimp only at h; rw [h]; rfl) | (rw [h]; rfl) | exact congrArg (fun m => [Value.slice _ m _]) h) mk41 (fun _ _ h => h.pick []) rfl rfl rfl rfl (by omega) ?_
         intro aq116 cq116
         refine rAlt ?_ ?_
         ·
          refine ldl Try.isAgg41 (cB 4 rfl rfl) (fun _ h => h.pick []) rfl rfl rfl ?_
          refine fld fl43_1 rfl rfl rfl ?_
          refine bsl (fun _ _ h => h.pick []) rfl rfl rfl (bsl41_1 (.slice _ _ _) rfl) (fun bkl68 hbkl68 => ?_)
          refine apR (hd := ((some ⟨bkm51, 0, none⟩), nws)) (x := (Math.mapR (Math.mirVc vs i) nws)) 4 3 0 maK.ok rfl rfl rfl (fun h => by first | rfl | (dsimp only at h; rw [h]; rfl) | (rw [h]; rfl) | exact congrArg (fun m => [Value.slice _ m _]) h) mk41 (fun _ _ h => h.pick []) rfl rfl rfl rfl (by omega) ?_
          intro aq117 cq117
          refine stl (v := .slice _ _ _) 4 rfl Try.sizeOf41 (fun _ h => h.pick []) rfl rfl rfl rfl rfl (Nat.le_of_ble_eq_true rfl) ?_
          refine fld fl43_2 rfl rfl rfl ?_
          refine stf (v := .slice _ _ _) 4 rfl Try.sizeOf41 rfl rfl rfl rfl rfl (Nat.le_of_ble_eq_true rfl) ?_
          refine rNil ?_
          refine qSeq rfl ?_
          refine hReg (sq 0 (sq 1 sz)) (by kernel_rfl) ?_
          refine add rfl rfl rfl rfl (by omega) ?_
          refine mvI rfl rfl rfl ?_
          refine rNil ?_
          rw [Math.mirWs_snoc ws rfl, Math.mirVs_snoc vs rfl]
          exact qNext rfl ((i + 1, q + 1, ((aq116, cq116), (hset hd.2 (Math.mirWs ws nws i).length ((some ⟨bkm52, 0, none⟩), nws))), ((aq117, cq117), (hset he.2 (Math.mirVs vs nws i).length ((some ⟨bkm51, 0, none⟩), nws))))) (by dsimp only; omega) ⟨by dsimp only; omega, by dsimp only; omega⟩ ⟨rfl, rfl, rfl, rfl, rfl, rfl, trivial⟩ (fun _ h => h.pick [0, 1, 2, 2, 2, 2])
         ·
          refine bsl (fun _ _ h => h.pick []) rfl rfl rfl (bsl41_1 (.slice _ _ _) rfl) (fun bkl69 hbkl69 => ?_)
          refine ldl Try.isAgg41 (cB 5 rfl rfl) (fun _ h => h.pick []) rfl rfl rfl ?_
          refine fld fl43_1 rfl rfl rfl ?_
          refine apR (hd := ((some ⟨bkm51, 0, none⟩), nws)) (x := (Math.mapR (Math.mirVc vs i) nws)) 4 3 0 maK.ok rfl rfl rfl (fun h => by first | rfl | (dsimp only at h; rw [h]; rfl) | (rw [h]; rfl) | exact congrArg (fun m => [Value.slice _ m _]) h) mk41 (fun _ _ h => h.pick []) rfl rfl rfl rfl (by omega) ?_
          intro aq118 cq118
          refine stl (v := .slice _ _ _) 4 rfl Try.sizeOf41 (fun _ h => h.pick []) rfl rfl rfl rfl rfl (Nat.le_of_ble_eq_true rfl) ?_
          refine fld fl43_2 rfl rfl rfl ?_
          refine stf (v := .slice _ _ _) 4 rfl Try.sizeOf41 rfl rfl rfl rfl rfl (Nat.le_of_ble_eq_true rfl) ?_
          refine rNil ?_
          refine qSeq rfl ?_
          refine hReg (sq 0 (sq 1 sz)) (by kernel_rfl) ?_
          refine add rfl rfl rfl rfl (by omega) ?_
          refine mvI rfl rfl rfl ?_
          refine rNil ?_
          rw [Math.mirWs_snoc ws rfl, Math.mirVs_snoc vs rfl]
          exact qNext rfl ((i + 1, q + 1, ((aq116, cq116), (hset hd.2 (Math.mirWs ws nws i).length ((some ⟨bkm52, 0, none⟩), nws))), ((aq118, cq118), (hset he.2 (Math.mirVs vs nws i).length ((some ⟨bkm51, 0, none⟩), nws))))) (by dsimp only; omega) ⟨by dsimp only; omega, by dsimp only; omega⟩ ⟨rfl, rfl, rfl, rfl, rfl, rfl, trivial⟩ (fun _ h => h.pick [0, 1, 2, 2, 2, 2])
        ·
         refine rAlt ?_ ?_
         ·
          refine ldl Try.isAgg41 (cB 5 rfl rfl) (fun _ h => h.pick []) rfl rfl rfl ?_
          refine rAlt ?_ ?_
          ·
           refine apR (hd := ((some ⟨bkm52, 0, none⟩), nws)) (x := (Math.mapR (Math.mirWc ws i) nws)) 4 1 0 maK.ok rfl rfl rfl (fun h => by first | rfl | (dsimp only at h; rw [h]; rfl) | (rw [h]; rfl) | exact congrArg (fun m => [Value.slice _ m _]) h) mk41 (fun _ _ h => h.pick []) rfl rfl rfl rfl (by omega) ?_
           intro aq119 cq119
           refine fld fl43_1 rfl rfl rfl ?_
           refine bsl (fun _ _ h => h.pick []) rfl rfl rfl (bsl41_1 (.slice _ _ _) rfl) (fun bkl70 hbkl70 => ?_)
           refine apR (hd := ((some ⟨bkm51, 0, none⟩), nws)) (x := (Math.mapR (Math.mirVc vs i) nws)) 4 3 0 maK.ok rfl rfl rfl (fun h => by first | rfl | (dsimp only at h; rw [h]; rfl) | (rw [h]; rfl) | exact congrArg (fun m => [Value.slice _ m _]) h) mk41 (fun _ _ h => h.pick []) rfl rfl rfl rfl (by omega) ?_
           intro aq120 cq120
           refine stl (v := .slice _ _ _) 4 rfl Try.sizeOf41 (fun _ h => h.pick []) rfl rfl rfl rfl rfl (Nat.le_of_ble_eq_true rfl) ?_
           refine fld fl43_2 rfl rfl rfl ?_
           refine stf (v := .slice _ _ _) 4 rfl Try.sizeOf41 rfl rfl rfl rfl rfl (Nat.le_of_ble_eq_true rfl) ?_
           refine rNil ?_
           refine qSeq rfl ?_
           refine hReg (sq 0 (sq 1 sz)) (by kernel_rfl) ?_
           refine add rfl rfl rfl rfl (by omega) ?_
           refine mvI rfl rfl rfl ?_
           refine rNil ?_
           rw [Math.mirWs_snoc ws rfl, Math.mirVs_snoc vs rfl]
           exact qNext rfl ((i + 1, q + 1, ((aq119, cq119), (hset hd.2 (Math.mirWs ws nws i).length ((some ⟨bkm52, 0, none⟩), nws))), ((aq120, cq120), (hset he.2 (Math.mirVs vs nws i).length ((some ⟨bkm51, 0, none⟩), nws))))) (by dsimp only; omega) ⟨by dsimp only; omega, by dsimp only; omega⟩ ⟨rfl, rfl, rfl, rfl, rfl, rfl, trivial⟩ (fun _ h => h.pick [0, 1, 2, 2, 2, 2])
          ·
           refine bsl (fun _ _ h => h.pick []) rfl rfl rfl (bsl41_1 (.slice _ _ _) rfl) (fun bkl71 hbkl71 => ?_)
           refine apR (hd := ((some ⟨bkm52, 0, none⟩), nws)) (x := (Math.mapR (Math.mirWc ws i) nws)) 5 2 1 maK.ok rfl rfl rfl (fun h => by first | rfl | (dsimp only at h; rw [h]; rfl) | (rw [h]; rfl) | exact congrArg (fun m => [Value.slice _ m _]) h) mk41 (fun _ _ h => h.pick []) rfl rfl rfl rfl (by omega) ?_
           intro aq121 cq121
           refine fld fl43_1 rfl rfl rfl ?_
           refine apR (hd := ((some ⟨bkm51, 0, none⟩), nws)) (x := (Math.mapR (Math.mirVc vs i) nws)) 4 3 1 maK.ok rfl rfl rfl (fun h => by first | rfl | (dsimp only at h; rw [h]; rfl) | (rw [h]; rfl) | exact congrArg (fun m => [Value.slice _ m _]) h) mk41 (fun _ _ h => h.pick []) rfl rfl rfl rfl (by omega) ?_
           intro aq122 cq122
           refine stl (v := .slice _ _ _) 4 rfl Try.sizeOf41 (fun _ h => h.pick []) rfl rfl rfl rfl rfl (Nat.le_of_ble_eq_true rfl) ?_
           refine fld fl43_2 rfl rfl rfl ?_
           refine stf (v := .slice _ _ _) 4 rfl Try.sizeOf41 rfl rfl rfl rfl rfl (Nat.le_of_ble_eq_true rfl) ?_
           refine rNil ?_
           refine qSeq rfl ?_
           refine hReg (sq 0 (sq 1 sz)) (by kernel_rfl) ?_
           refine add rfl rfl rfl rfl (by omega) ?_
           refine mvI rfl rfl rfl ?_
           refine rNil ?_
           rw [Math.mirWs_snoc ws rfl, Math.mirVs_snoc vs rfl]
           exact qNext rfl ((i + 1, q + 1, ((aq121, cq121), (hset hd.2 (Math.mirWs ws nws i).length ((some ⟨bkm52, 0, none⟩), nws))), ((aq122, cq122), (hset he.2 (Math.mirVs vs nws i).length ((some ⟨bkm51, 0, none⟩), nws))))) (by dsimp only; omega) ⟨by dsimp only; omega, by dsimp only; omega⟩ ⟨rfl, rfl, rfl, rfl, rfl, rfl, trivial⟩ (fun _ h => h.pick [0, 0, 2, 2, 2, 2])
         ·
          refine bsl (fun _ _ h => h.pick []) rfl rfl rfl (bsl41_1 (.slice _ _ _) rfl) (fun bkl72 hbkl72 => ?_)
          refine rAlt ?_ ?_
          ·
           refine apR (hd := ((some ⟨bkm52, 0, none⟩), nws)) (x := (Math.mapR (Math.mirWc ws i) nws)) 5 2 1 maK.ok rfl rfl rfl (fun h => by first | rfl | (dsimp only at h; rw [h]; rfl) | (rw [h]; rfl) | exact congrArg (fun m => [Value.slice _ m _]) h) mk41 (fun _ _ h => h.pick []) rfl rfl rfl rfl (by omega) ?_
           intro aq123 cq123
           refine ldl Try.isAgg41 (cB 5 rfl rfl) (fun _ h => h.pick []) rfl rfl rfl ?_
           refine fld fl43_1 rfl rfl rfl ?_
           refine apR (hd := ((some ⟨bkm51, 0, none⟩), nws)) (x := (Math.mapR (Math.mirVc vs i) nws)) 4 3 1 maK.ok rfl rfl rfl (fun h => by first | rfl | (dsimp only at h; rw [h]; rfl) | (rw [h]; rfl) | exact congrArg (fun m => [Value.slice _ m _]) h) mk41 (fun _ _ h => h.pick []) rfl rfl rfl rfl (by omega) ?_
           intro aq124 cq124
           refine stl (v := .slice _ _ _) 4 rfl Try.sizeOf41 (fun _ h => h.pick []) rfl rfl rfl rfl rfl (Nat.le_of_ble_eq_true rfl) ?_
           refine fld fl43_2 rfl rfl rfl ?_
           refine stf (v := .slice _ _ _) 4 rfl Try.sizeOf41 rfl rfl rfl rfl rfl (Nat.le_of_ble_eq_true rfl) ?_
           refine rNil ?_
           refine qSeq rfl ?_
           refine hReg (sq 0 (sq 1 sz)) (by kernel_rfl) ?_
           refine add rfl rfl rfl rfl (by omega) ?_
           refine mvI rfl rfl rfl ?_
           refine rNil ?_
           rw [Math.mirWs_snoc ws rfl, Math.mirVs_snoc vs rfl]
           exact qNext rfl ((i + 1, q + 1, ((aq123, cq123), (hset hd.2 (Math.mirWs ws nws i).length ((some ⟨bkm52, 0, none⟩), nws))), ((aq124, cq124), (hset he.2 (Math.mirVs vs nws i).length ((some ⟨bkm51, 0, none⟩), nws))))) (by dsimp only; omega) ⟨by dsimp only; omega, by dsimp only; omega⟩ ⟨rfl, rfl, rfl, rfl, rfl, rfl, trivial⟩ (fun _ h => h.pick [0, 0, 2, 2, 2, 2])
          ·
           refine ldl Try.isAgg41 (cB 6 rfl rfl) (fun _ h => h.pick []) rfl rfl rfl ?_
           refine apR (hd := ((some ⟨bkm52, 0, none⟩), nws)) (x := (Math.mapR (Math.mirWc ws i) nws)) 5 2 1 maK.ok rfl rfl rfl (fun h => by first | rfl | (dsimp only at h; rw [h]; rfl) | (rw [h]; rfl) | exact congrArg (fun m => [Value.slice _ m _]) h) mk41 (fun _ _ h => h.pick []) rfl rfl rfl rfl (by omega) ?_
           intro aq125 cq125
           refine fld fl43_1 rfl rfl rfl ?_
           refine apR (hd := ((some ⟨bkm51, 0, none⟩), nws)) (x := (Math.mapR (Math.mirVc vs i) nws)) 4 3 1 maK.ok rfl rfl rfl (fun h => by first | rfl | (dsimp only at h; rw [h]; rfl) | (rw [h]; rfl) | exact congrArg (fun m => [Value.slice _ m _]) h) mk41 (fun _ _ h => h.pick []) rfl rfl rfl rfl (by omega) ?_
           intro aq126 cq126
           refine stl (v := .slice _ _ _) 4 rfl Try.sizeOf41 (fun _ h => h.pick []) rfl rfl rfl rfl rfl (Nat.le_of_ble_eq_true rfl) ?_
           refine fld fl43_2 rfl rfl rfl ?_
           refine stf (v := .slice _ _ _) 4 rfl Try.sizeOf41 rfl rfl rfl rfl rfl (Nat.le_of_ble_eq_true rfl) ?_
           refine rNil ?_
           refine qSeq rfl ?_
           refine hReg (sq 0 (sq 1 sz)) (by kernel_rfl) ?_
           refine add rfl rfl rfl rfl (by omega) ?_
           refine mvI rfl rfl rfl ?_
           refine rNil ?_
           rw [Math.mirWs_snoc ws rfl, Math.mirVs_snoc vs rfl]
           exact qNext rfl ((i + 1, q + 1, ((aq125, cq125), (hset hd.2 (Math.mirWs ws nws i).length ((some ⟨bkm52, 0, none⟩), nws))), ((aq126, cq126), (hset he.2 (Math.mirVs vs nws i).length ((some ⟨bkm51, 0, none⟩), nws))))) (by dsimp only; omega) ⟨by dsimp only; omega, by dsimp only; omega⟩ ⟨rfl, rfl, rfl, rfl, rfl, rfl, trivial⟩ (fun _ h => h.pick [0, 0, 2, 2, 2, 2])
       ·
        refine rAlt ?_ ?_
        ·
         refine ldl Try.isAgg41 (cB 5 rfl rfl) (fun _ h => h.pick []) rfl rfl rfl ?_
         refine rAlt ?_ ?_
         ·
          refine ldl Try.isAgg41 (cB 5 rfl rfl) (fun _ h => h.pick []) rfl rfl rfl ?_
          refine rAlt ?_ ?_
          ·
           refine apR (hd := ((some ⟨bkm52, 0, none⟩), nws)) (x := (Math.mapR (Math.mirWc ws i) nws)) 4 1 0 maK.ok rfl rfl rfl (fun h => by first | rfl | (dsimp only at h; rw [h]; rfl) | (rw [h]; rfl) | exact congrArg (fun m => [Value.slice _ m _]) h) mk41 (fun _ _ h => h.pick []) rfl rfl rfl rfl (by omega) ?_
           intro aq127 cq127
           refine fld fl43_1 rfl rfl rfl ?_
           refine bsl (fun _ _ h => h.pick []) rfl rfl rfl (bsl41_1 (.slice _ _ _) rfl) (fun bkl73 hbkl73 => ?_)
           refine apR (hd := ((some ⟨bkm51, 0, none⟩), nws)) (x := (Math.mapR (Math.mirVc vs i) nws)) 4 3 0 maK.ok rfl rfl rfl (fun h => by first | rfl | (dsimp only at h; rw [h]; rfl) | (rw [h]; rfl) | exact congrArg (fun m => [Value.slice _ m _]) h) mk41 (fun _ _ h => h.pick []) rfl rfl rfl rfl (by omega) ?_
           intro aq128 cq128
           refine stl (v := .slice _ _ _) 4 rfl Try.sizeOf41 (fun _ h => h.pick []) rfl rfl rfl rfl rfl (Nat.le_of_ble_eq_true rfl) ?_
           refine fld fl43_2 rfl rfl rfl ?_
           refine stf (v := .slice _ _ _) 4 rfl Try.sizeOf41 rfl rfl rfl rfl rfl (Nat.le_of_ble_eq_true rfl) ?_
           refine rNil ?_
           refine qSeq rfl ?_
           refine hReg (sq 0 (sq 1 sz)) (by kernel_rfl) ?_
           refine add rfl rfl rfl rfl (by omega) ?_
           refine mvI rfl rfl rfl ?_
           refine rNil ?_
           rw [Math.mirWs_snoc ws rfl, Math.mirVs_snoc vs rfl]
           exact qNext rfl ((i + 1, q + 1, ((aq127, cq127), (hset hd.2 (Math.mirWs ws nws i).length ((some ⟨bkm52, 0, none⟩), nws))), ((aq128, cq128), (hset he.2 (Math.mirVs vs nws i).length ((some ⟨bkm51, 0, none⟩), nws))))) (by dsimp only; omega) ⟨by dsimp only; omega, by dsimp only; omega⟩ ⟨rfl, rfl, rfl, rfl, rfl, rfl, trivial⟩ (fun _ h => h.pick [0, 1, 2, 2, 2, 2])
          ·
           refine bsl (fun _ _ h => h.pick []) rfl rfl rfl (bsl41_1 (.slice _ _ _) rfl) (fun bkl74 hbkl74 => ?_)
           refine apR (hd := ((some ⟨bkm52, 0, none⟩), nws)) (x := (Math.mapR (Math.mirWc ws i) nws)) 5 2 1 maK.ok rfl rfl rfl (fun h => by first | rfl | (dsimp only at h; rw [h]; rfl) | (rw [h]; rfl) | exact congrArg (fun m => [Value.slice _ m _]) h) mk41 (fun _ _ h => h.pick []) rfl rfl rfl rfl (by omega) ?_
           intro aq129 cq129
           refine fld fl43_1 rfl rfl rfl ?_
           refine apR (hd := ((some ⟨bkm51, 0, none⟩), nws)) (x := (Math.mapR (Math.mirVc vs i) nws)) 4 3 1 maK.ok rfl rfl rfl (fun h => by first | rfl | (dsimp only at h; rw [h]; rfl) | (rw [h]; rfl) | exact congrArg (fun m => [Value.slice _ m _]) h) mk41 (fun _ _ h => h.pick []) rfl rfl rfl rfl (by omega) ?_
           intro aq130 cq130
           refine stl (v := .slice _ _ _) 4 rfl Try.sizeOf41 (fun _ h => h.pick []) rfl rfl rfl rfl rfl (Nat.le_of_ble_eq_true rfl) ?_
           refine fld fl43_2 rfl rfl rfl ?_
           refine stf (v := .slice _ _ _) 4 rfl Try.sizeOf41 rfl rfl rfl rfl rfl (Nat.le_of_ble_eq_true rfl) ?_
           refine rNil ?_
           refine qSeq rfl ?_
           refine hReg (sq 0 (sq 1 sz)) (by kernel_rfl) ?_
           refine add rfl rfl rfl rfl (by omega) ?_
           refine mvI rfl rfl rfl ?_
           refine rNil ?_
           rw [Math.mirWs_snoc ws rfl, Math.mirVs_snoc vs rfl]
           exact qNext rfl ((i + 1, q + 1, ((aq129, cq129), (hset hd.2 (Math.mirWs ws nws i).length ((some ⟨bkm52, 0, none⟩), nws))), ((aq130, cq130), (hset he.2 (Math.mirVs vs nws i).length ((some ⟨bkm51, 0, none⟩), nws))))) (by dsimp only; omega) ⟨by dsimp only; omega, by dsimp only; omega⟩ ⟨rfl, rfl, rfl, rfl, rfl, rfl, trivial⟩ (fun _ h => h.pick [0, 0, 2, 2, 2, 2])
         ·
          refine bsl (fun _ _ h => h.pick []) rfl rfl rfl (bsl41_1 (.slice _ _ _) rfl) (fun bkl75 hbkl75 => ?_)
          refine ldl Try.isAgg41 (cB 6 rfl rfl) (fun _ h => h.pick []) rfl rfl rfl ?_
          refine apR (hd := ((some ⟨bkm52, 0, none⟩), nws)) (x := (Math.mapR (Math.mirWc ws i) nws)) 5 2 1 maK.ok rfl rfl rfl (fun h => by first | rfl | (dsimp only at h; rw [h]; rfl) | (rw [h]; rfl) | exact congrArg (fun m => [Value.slice _ m _]) h) mk41 (fun _ _ h => h.pick []) rfl rfl rfl rfl (by omega) ?_
          intro aq131 cq131
          refine fld fl43_1 rfl rfl rfl ?_
          refine apR (hd := ((some ⟨bkm51, 0, none⟩), nws)) (x := (Math.mapR (Math.mirVc vs i) nws)) 4 3 1 maK.ok rfl rfl rfl (fun h => by first | rfl | (dsimp only at h; rw [h]; rfl) | (rw [h]; rfl) | exact congrArg (fun m => [Value.slice _ m _]) h) mk41 (fun _ _ h => h.pick []) rfl rfl rfl rfl (by omega) ?_
          intro aq132 cq132
          refine stl (v := .slice _ _ _) 4 rfl Try.sizeOf41 (fun _ h => h.pick []) rfl rfl rfl rfl rfl (Nat.le_of_ble_eq_true rfl) ?_
          refine fld fl43_2 rfl rfl rfl ?_
          refine stf (v := .slice _ _ _) 4 rfl Try.sizeOf41 rfl rfl rfl rfl rfl (Nat.le_of_ble_eq_true rfl) ?_
          refine rNil ?_
          refine qSeq rfl ?_
          refine hReg (sq 0 (sq 1 sz)) (by kernel_rfl) ?_
          refine add rfl rfl rfl rfl (by omega) ?_
          refine mvI rfl rfl rfl ?_
          refine rNil ?_
          rw [Math.mirWs_snoc ws rfl, Math.mirVs_snoc vs rfl]
          exact qNext rfl ((i + 1, q + 1, ((aq131, cq131), (hset hd.2 (Math.mirWs ws nws i).length ((some ⟨bkm52, 0, none⟩), nws))), ((aq132, cq132), (hset he.2 (Math.mirVs vs nws i).length ((some ⟨bkm51, 0, none⟩), nws))))) (by dsimp only; omega) ⟨by dsimp only; omega, by dsimp only; omega⟩ ⟨rfl, rfl, rfl, rfl, rfl, rfl, trivial⟩ (fun _ h => h.pick [0, 0, 2, 2, 2, 2])
        ·
         refine bsl (fun _ _ h => h.pick []) rfl rfl rfl (bsl41_1 (.slice _ _ _) rfl) (fun bkl76 hbkl76 => ?_)
         refine rAlt ?_ ?_
         ·
          refine ldl Try.isAgg41 (cB 6 rfl rfl) (fun _ h => h.pick []) rfl rfl rfl ?_
          refine rAlt ?_ ?_
          ·
           refine apR (hd := ((some ⟨bkm52, 0, none⟩), nws)) (x := (Math.mapR (Math.mirWc ws i) nws)) 5 2 1 maK.ok rfl rfl rfl (fun h => by first | rfl | (dsimp only at h; rw [h]; rfl) | (rw [h]; rfl) | exact congrArg (fun m => [Value.slice _ m _]) h) mk41 (fun _ _ h => h.pick []) rfl rfl rfl rfl (by omega) ?_
           intro aq133 cq133
           refine ldl Try.isAgg41 (cB 5 rfl rfl) (fun _ h => h.pick []) rfl rfl rfl ?_
           refine fld fl43_1 rfl rfl rfl ?_
           refine apR (hd := ((some ⟨bkm51, 0, none⟩), nws)) (x := (Math.mapR (Math.mirVc vs i) nws)) 4 3 1 maK.ok rfl rfl rfl (fun h => by first | rfl | (dsimp only at h; rw [h]; rfl) | (rw [h]; rfl) | exact congrArg (fun m => [Value.slice _ m _]) h) mk41 (fun _ _ h => h.pick []) rfl rfl rfl rfl (by omega) ?_
           intro aq134 cq134
           refine stl (v := .slice _ _ _) 4 rfl Try.sizeOf41 (fun _ h => h.pick []) rfl rfl rfl rfl rfl (Nat.le_of_ble_eq_true rfl) ?_
           refine fld fl43_2 rfl rfl rfl ?_
           refine stf (v := .slice _ _ _) 4 rfl Try.sizeOf41 rfl rfl rfl rfl rfl (Nat.le_of_ble_eq_true rfl) ?_
           refine rNil ?_
           refine qSeq rfl ?_
           refine hReg (sq 0 (sq 1 sz)) (by kernel_rfl) ?_
           refine add rfl rfl rfl rfl (by omega) ?_
           refine mvI rfl rfl rfl ?_
           refine rNil ?_
           rw [Math.mirWs_snoc ws rfl, Math.mirVs_snoc vs rfl]
           exact qNext rfl ((i + 1, q + 1, ((aq133, cq133), (hset hd.2 (Math.mirWs ws nws i).length ((some ⟨bkm52, 0, none⟩), nws))), ((aq134, cq134), (hset he.2 (Math.mirVs vs nws i).length ((some ⟨bkm51, 0, none⟩), nws))))) (by dsimp only; omega) ⟨by dsimp only; omega, by dsimp only; omega⟩ ⟨rfl, rfl, rfl, rfl, rfl, rfl, trivial⟩ (fun _ h => h.pick [0, 0, 2, 2, 2, 2])
          ·
           refine ldl Try.isAgg41 (cB 6 rfl rfl) (fun _ h => h.pick []) rfl rfl rfl ?_
           refine apR (hd := ((some ⟨bkm52, 0, none⟩), nws)) (x := (Math.mapR (Math.mirWc ws i) nws)) 5 2 1 maK.ok rfl rfl rfl (fun h => by first | rfl | (dsimp only at h; rw [h]; rfl) | (rw [h]; rfl) | exact congrArg (fun m => [Value.slice _ m _]) h) mk41 (fun _ _ h => h.pick []) rfl rfl rfl rfl (by omega) ?_
           intro aq135 cq135
           refine fld fl43_1 rfl rfl rfl ?_
           refine apR (hd := ((some ⟨bkm51, 0, none⟩), nws)) (x := (Math.mapR (Math.mirVc vs i) nws)) 4 3 1 maK.ok rfl rfl rfl (fun h => by first | rfl | (dsimp only at h; rw [h]; rfl) | (rw [h]; rfl) | exact congrArg (fun m => [Value.slice _ m _]) h) mk41 (fun _ _ h => h.pick []) rfl rfl rfl rfl (by omega) ?_
           intro aq136 cq136
           refine stl (v := .slice _ _ _) 4 rfl Try.sizeOf41 (fun _ h => h.pick []) rfl rfl rfl rfl rfl (Nat.le_of_ble_eq_true rfl) ?_
           refine fld fl43_2 rfl rfl rfl ?_
           refine stf (v := .slice _ _ _) 4 rfl Try.sizeOf41 rfl rfl rfl rfl rfl (Nat.le_of_ble_eq_true rfl) ?_
           refine rNil ?_
           refine qSeq rfl ?_
           refine hReg (sq 0 (sq 1 sz)) (by kernel_rfl) ?_
           refine add rfl rfl rfl rfl (by omega) ?_
           refine mvI rfl rfl rfl ?_
           refine rNil ?_
           rw [Math.mirWs_snoc ws rfl, Math.mirVs_snoc vs rfl]
           exact qNext rfl ((i + 1, q + 1, ((aq135, cq135), (hset hd.2 (Math.mirWs ws nws i).length ((some ⟨bkm52, 0, none⟩), nws))), ((aq136, cq136), (hset he.2 (Math.mirVs vs nws i).length ((some ⟨bkm51, 0, none⟩), nws))))) (by dsimp only; omega) ⟨by dsimp only; omega, by dsimp only; omega⟩ ⟨rfl, rfl, rfl, rfl, rfl, rfl, trivial⟩ (fun _ h => h.pick [0, 0, 2, 2, 2, 2])
         ·
          refine ldl Try.isAgg41 (cB 6 rfl rfl) (fun _ h => h.pick []) rfl rfl rfl ?_
          refine ldl Try.isAgg41 (cB 6 rfl rfl) (fun _ h => h.pick []) rfl rfl rfl ?_
          refine apR (hd := ((some ⟨bkm52, 0, none⟩), nws)) (x := (Math.mapR (Math.mirWc ws i) nws)) 5 2 1 maK.ok rfl rfl rfl (fun h => by first | rfl | (dsimp only at h; rw [h]; rfl) | (rw [h]; rfl) | exact congrArg (fun m => [Value.slice _ m _]) h) mk41 (fun _ _ h => h.pick []) rfl rfl rfl rfl (by omega) ?_
          intro aq137 cq137
          refine fld fl43_1 rfl rfl rfl ?_
          refine apR (hd := ((some ⟨bkm51, 0, none⟩), nws)) (x := (Math.mapR (Math.mirVc vs i) nws)) 4 3 1 maK.ok rfl rfl rfl (fun h => by first | rfl | (dsimp only at h; rw [h]; rfl) | (rw [h]; rfl) | exact congrArg (fun m => [Value.slice _ m _]) h) mk41 (fun _ _ h => h.pick []) rfl rfl rfl rfl (by omega) ?_
          intro aq138 cq138
          refine stl (v := .slice _ _ _) 4 rfl Try.sizeOf41 (fun _ h => h.pick []) rfl rfl rfl rfl rfl (Nat.le_of_ble_eq_true rfl) ?_
          refine fld fl43_2 rfl rfl rfl ?_
          refine stf (v := .slice _ _ _) 4 rfl Try.sizeOf41 rfl rfl rfl rfl rfl (Nat.le_of_ble_eq_true rfl) ?_
          refine rNil ?_
          refine qSeq rfl ?_
          refine hReg (sq 0 (sq 1 sz)) (by kernel_rfl) ?_
          refine add rfl rfl rfl rfl (by omega) ?_
          refine mvI rfl rfl rfl ?_
          refine rNil ?_
          rw [Math.mirWs_snoc ws rfl, Math.mirVs_snoc vs rfl]
          exact qNext rfl ((i + 1, q + 1, ((aq137, cq137), (hset hd.2 (Math.mirWs ws nws i).length ((some ⟨bkm52, 0, none⟩), nws))), ((aq138, cq138), (hset he.2 (Math.mirVs vs nws i).length ((some ⟨bkm51, 0, none⟩), nws))))) (by dsimp only; omega) ⟨by dsimp only; omega, by dsimp only; omega⟩ ⟨rfl, rfl, rfl, rfl, rfl, rfl, trivial⟩ (fun _ h => h.pick [0, 0, 2, 2, 2, 2])
      ·
       refine rAlt ?_ ?_
       ·
        refine ldl Try.isAgg41 (cB 4 rfl rfl) (fun _ h => h.pick []) rfl rfl rfl ?_
        refine rAlt ?_ ?_
        ·
         refine ldl Try.isAgg41 (cB 4 rfl rfl) (fun _ h => h.pick []) rfl rfl rfl ?_
         refine rAlt ?_ ?_
         ·
          refine bsl (fun _ _ h => h.pick []) rfl rfl rfl (bsl41_1 (.slice _ _ _) rfl) (fun bkl77 hbkl77 => ?_)
          refine rAlt ?_ ?_
          ·
           refine apR (hd := ((some ⟨bkm52, 0, none⟩), nws)) (x := (Math.mapR (Math.mirWc ws i) nws)) 4 1 0 maK.ok rfl rfl rfl (fun h => by first | rfl | (dsimp only at h; rw [h]; rfl) | (rw [h]; rfl) | exact congrArg (fun m => [Value.slice _ m _]) h) mk41 (fun _ _ h => h.pick []) rfl rfl rfl rfl (by omega) ?_
           intro aq139 cq139
           refine fld fl43_1 rfl rfl rfl ?_
           refine bsl (fun _ _ h => h.pick []) rfl rfl rfl (bsl41_1 (.slice _ _ _) rfl) (fun bkl78 hbkl78 => ?_)
           refine apR (hd := ((some ⟨bkm51, 0, none⟩), nws)) (x := (Math.mapR (Math.mirVc vs i) nws)) 4 3 0 maK.ok rfl rfl rfl (fun h => by first | rfl | (dsimp only at h; rw [h]; rfl) | (rw [h]; rfl) | exact congrArg (fun m => [Value.slice _ m _]) h) mk41 (fun _ _ h => h.pick []) rfl rfl rfl rfl (by omega) ?_
           intro aq140 cq140
           refine stl (v := .slice _ _ _) 4 rfl Try.sizeOf41 (fun _ h => h.pick []) rfl rfl rfl rfl rfl (Nat.le_of_ble_eq_true rfl) ?_
           refine fld fl43_2 rfl rfl rfl ?_
           refine stf (v := .slice _ _ _) 4 rfl Try.sizeOf41 rfl rfl rfl rfl rfl (Nat.le_of_ble_eq_true rfl) ?_
           refine rNil ?_
           refine qSeq rfl ?_
           refine hReg (sq 0 (sq 1 sz)) (by kernel_rfl) ?_
           refine add rfl rfl rfl rfl (by omega) ?_
           refine mvI rfl rfl rfl ?_
           refine rNil ?_
           rw [Math.mirWs_snoc ws rfl, Math.mirVs_snoc vs rfl]
           exact qNext rfl ((i + 1, q + 1, ((aq139, cq139), (hset hd.2 (Math.mirWs ws nws i).length ((some ⟨bkm52, 0, none⟩), nws))), ((aq140, cq140), (hset he.2 (Math.mirVs vs nws i).length ((some ⟨bkm51, 0, none⟩), nws))))) (by dsimp only; omega) ⟨by dsimp only; omega, by dsimp only; omega⟩ ⟨rfl, rfl, rfl, rfl, rfl, rfl, trivial⟩ (fun _ h => h.pick [0, 1, 2, 2, 2, 2])
          ·
           refine bsl (fun _ _ h => h.pick []) rfl rfl rfl (bsl41_1 (.slice _ _ _) rfl) (fun bkl79 hbkl79 => ?_)
           refine apR (hd := ((some ⟨bkm52, 0, none⟩), nws)) (x := (Math.mapR (Math.mirWc ws i) nws)) 5 2 1 maK.ok rfl rfl rfl (fun h => by first | rfl | (dsimp only at h; rw [h]; rfl) | (rw [h]; rfl) | exact congrArg (fun m => [Value.slice _ m _]) h) mk41 (fun _ _ h => h.pick []) rfl rfl rfl rfl (by omega) ?_
           intro aq141 cq141
           refine fld fl43_1 rfl rfl rfl ?_
           refine apR (hd := ((some ⟨bkm51, 0, none⟩), nws)) (x := (Math.mapR (Math.mirVc vs i) nws)) 4 3 1 maK.ok rfl rfl rfl (fun h => by first | rfl | (dsimp only at h; rw [h]; rfl) | (rw [h]; rfl) | exact congrArg (fun m => [Value.slice _ m _]) h) mk41 (fun _ _ h => h.pick []) rfl rfl rfl rfl (by omega) ?_
           intro aq142 cq142
           refine stl (v := .slice _ _ _) 4 rfl Try.sizeOf41 (fun _ h => h.pick []) rfl rfl rfl rfl rfl (Nat.le_of_ble_eq_true rfl) ?_
           refine fld fl43_2 rfl rfl rfl ?_
           refine stf (v := .slice _ _ _) 4 rfl Try.sizeOf41 rfl rfl rfl rfl rfl (Nat.le_of_ble_eq_true rfl) ?_
           refine rNil ?_
           refine qSeq rfl ?_
           refine hReg (sq 0 (sq 1 sz)) (by kernel_rfl) ?_
           refine add rfl rfl rfl rfl (by omega) ?_
           refine mvI rfl rfl rfl ?_
           refine rNil ?_
           rw [Math.mirWs_snoc ws rfl, Math.mirVs_snoc vs rfl]
           exact qNext rfl ((i + 1, q + 1, ((aq141, cq141), (hset hd.2 (Math.mirWs ws nws i).length ((some ⟨bkm52, 0, none⟩), nws))), ((aq142, cq142), (hset he.2 (Math.mirVs vs nws i).length ((some ⟨bkm51, 0, none⟩), nws))))) (by dsimp only; omega) ⟨by dsimp only; omega, by dsimp only; omega⟩ ⟨rfl, rfl, rfl, rfl, rfl, rfl, trivial⟩ (fun _ h => h.pick [0, 0, 2, 2, 2, 2])
         ·
          refine bsl (fun _ _ h => h.pick []) rfl rfl rfl (bsl41_1 (.slice _ _ _) rfl) (fun bkl80 hbkl80 => ?_)
          refine bsl (fun _ _ h => h.pick []) rfl rfl rfl (bsl41_1 (.slice _ _ _) rfl) (fun bkl81 hbkl81 => ?_)
          refine apR (hd := ((some ⟨bkm52, 0, none⟩), nws)) (x := (Math.mapR (Math.mirWc ws i) nws)) 5 2 0 maK.ok rfl rfl rfl (fun h => by first | rfl | (dsimp only at h; rw [h]; rfl) | (rw [h]; rfl) | exact congrArg (fun m => [Value.slice _ m _]) h) mk41 (fun _ _ h => h.pick []) rfl rfl rfl rfl (by omega) ?_
          intro aq143 cq143
          refine fld fl43_1 rfl rfl rfl ?_
          refine apR (hd := ((some ⟨bkm51, 0, none⟩), nws)) (x := (Math.mapR (Math.mirVc vs i) nws)) 4 3 2 maK.ok rfl rfl rfl (fun h => by first | rfl | (dsimp only at h; rw [h]; rfl) | (rw [h]; rfl) | exact congrArg (fun m => [Value.slice _ m _]) h) mk41 (fun _ _ h => h.pick []) rfl rfl rfl rfl (by omega) ?_
          intro aq144 cq144
          refine stl (v := .slice _ _ _) 4 rfl Try.sizeOf41 (fun _ h => h.pick []) rfl rfl rfl rfl rfl (Nat.le_of_ble_eq_true rfl) ?_
          refine fld fl43_2 rfl rfl rfl ?_
          refine stf (v := .slice _ _ _) 4 rfl Try.sizeOf41 rfl rfl rfl rfl rfl (Nat.le_of_ble_eq_true rfl) ?_
          refine rNil ?_
          refine qSeq rfl ?_
          refine hReg (sq 0 (sq 1 sz)) (by kernel_rfl) ?_
          refine add rfl rfl rfl rfl (by omega) ?_
          refine mvI rfl rfl rfl ?_
          refine rNil ?_
          rw [Math.mirWs_snoc ws rfl, Math.mirVs_snoc vs rfl]
          exact qNext rfl ((i + 1, q + 1, ((aq143, cq143), (hset hd.2 (Math.mirWs ws nws i).length ((some ⟨bkm52, 0, none⟩), nws))), ((aq144, cq144), (hset he.2 (Math.mirVs vs nws i).length ((some ⟨bkm51, 0, none⟩), nws))))) (by dsimp only; omega) ⟨by dsimp only; omega, by dsimp only; omega⟩ ⟨rfl, rfl, rfl, rfl, rfl, rfl, trivial⟩ (fun _ h => h.pick [0, 0, 2, 2, 2, 2])
        ·
         refine rAlt ?_ ?_
         ·
          refine bsl (fun _ _ h => h.pick []) rfl rfl rfl (bsl41_1 (.slice _ _ _) rfl) (fun bkl82 hbkl82 => ?_)
          refine rAlt ?_ ?_
          ·
           refine ldl Try.isAgg41 (cB 5 rfl rfl) (fun _ h => h.pick []) rfl rfl rfl ?_
           refine rAlt ?_ ?_
           ·
            refine apR (hd := ((some ⟨bkm52, 0, none⟩), nws)) (x := (Math.mapR (Math.mirWc ws i) nws)) 4 1 0 maK.ok rfl rfl rfl (fun h => by first | rfl | (dsimp only at h; rw [h]; rfl) | (rw [h]; rfl) | exact congrArg (fun m => [Value.slice _ m _]) h) mk41 (fun _ _ h => h.pick []) rfl rfl rfl rfl (by omega) ?_
            intro aq145 cq145
            refine fld fl43_1 rfl rfl rfl ?_
            refine bsl (fun _ _ h => h.pick []) rfl rfl rfl (bsl41_1 (.slice _ _ _) rfl) (fun bkl83 hbkl83 => ?_)
            refine apR (hd := ((some ⟨bkm51, 0, none⟩), nws)) (x := (Math.mapR (Math.mirVc vs i) nws)) 4 3 0 maK.ok rfl rfl rfl (fun h => by first | rfl | (dsimp only at h; rw [h]; rfl) | (rw [h]; rfl) | exact congrArg (fun m => [Value.slice _ m _]) h) mk41 (fun _ _ h => h.pick []) rfl rfl rfl rfl (by omega) ?_
            intro aq146 cq146
            refine stl (v := .slice _ _ _) 4 rfl Try.sizeOf41 (fun _ h => h.pick []) rfl rfl rfl rfl rfl (Nat.le_of_ble_eq_true rfl) ?_
            refine fld fl43_2 rfl rfl rfl ?_
            refine stf (v := .slice _ _ _) 4 rfl Try.sizeOf41 rfl rfl rfl rfl rfl (Nat.le_of_ble_eq_true rfl) ?_
            refine rNil ?_
            refine qSeq rfl ?_
            refine hReg (sq 0 (sq 1 sz)) (by kernel_rfl) ?_
            refine add rfl rfl rfl rfl (by omega) ?_
            refine mvI rfl rfl rfl ?_
            refine rNil ?_
            rw [Math.mirWs_snoc ws rfl, Math.mirVs_snoc vs rfl]
            exact qNext rfl ((i + 1, q + 1, ((aq145, cq145), (hset hd.2 (Math.mirWs ws nws i).length ((some ⟨bkm52, 0, none⟩), nws))), ((aq146, cq146), (hset he.2 (Math.mirVs vs nws i).length ((some ⟨bkm51, 0, none⟩), nws))))) (by dsimp only; omega) ⟨by dsimp only; omega, by dsimp only; omega⟩ ⟨rfl, rfl, rfl, rfl, rfl, rfl, trivial⟩ (fun _ h => h.pick [0, 1, 2, 2, 2, 2])
           ·
            refine bsl (fun _ _ h => h.pick []) rfl rfl rfl (bsl41_1 (.slice _ _ _) rfl) (fun bkl84 hbkl84 => ?_)
            refine apR (hd := ((some ⟨bkm52, 0, none⟩), nws)) (x := (Math.mapR (Math.mirWc ws i) nws)) 5 2 1 maK.ok rfl rfl rfl (fun h => by first | rfl | (dsimp only at h; rw [h]; rfl) | (rw [h]; rfl) | exact congrArg (fun m => [Value.slice _ m _]) h) mk41 (fun _ _ h => h.pick []) rfl rfl rfl rfl (by omega) ?_
            intro aq147 cq147
            refine fld fl43_1 rfl rfl rfl ?_
            refine apR (hd := ((some ⟨bkm51, 0, none⟩), nws)) (x := (Math.mapR (Math.mirVc vs i) nws)) 4 3 1 maK.ok rfl rfl rfl (fun h => by first | rfl | (dsimp only at h; rw [h]; rfl) | (rw [h]; rfl) | exact congrArg (fun m => [Value.slice _ m _]) h) mk41 (fun _ _ h => h.pick []) rfl rfl rfl rfl (by omega) ?_
            intro aq148 cq148
            refine stl (v := .slice _ _ _) 4 rfl Try.sizeOf41 (fun _ h => h.pick []) rfl rfl rfl rfl rfl (Nat.le_of_ble_eq_true rfl) ?_
            refine fld fl43_2 rfl rfl rfl ?_
            refine stf (v := .slice _ _ _) 4 rfl Try.sizeOf41 rfl rfl rfl rfl rfl (Nat.le_of_ble_eq_true rfl) ?_
            refine rNil ?_
            refine qSeq rfl ?_
            refine hReg (sq 0 (sq 1 sz)) (by kernel_rfl) ?_
            refine add rfl rfl rfl rfl (by omega) ?_
            refine mvI rfl rfl rfl ?_
            refine rNil ?_
            rw [Math.mirWs_snoc ws rfl, Math.mirVs_snoc vs rfl]
            exact qNext rfl ((i + 1, q + 1, ((aq147, cq147), (hset hd.2 (Math.mirWs ws nws i).length ((some ⟨bkm52, 0, none⟩), nws))), ((aq148, cq148), (hset he.2 (Math.mirVs vs nws i).length ((some ⟨bkm51, 0, none⟩), nws))))) (by dsimp only; omega) ⟨by dsimp only; omega, by dsimp only; omega⟩ ⟨rfl, rfl, rfl, rfl, rfl, rfl, trivial⟩ (fun _ h => h.pick [0, 0, 2, 2, 2, 2])
          ·
           refine bsl (fun _ _ h => h.pick []) rfl rfl rfl (bsl41_1 (.slice _ _ _) rfl) (fun bkl85 hbkl85 => ?_)
           refine ldl Try.isAgg41 (cB 6 rfl rfl) (fun _ h => h.pick []) rfl rfl rfl ?_
           refine apR (hd := ((some ⟨bkm52, 0, none⟩), nws)) (x := (Math.mapR (Math.mirWc ws i) nws)) 5 2 1 maK.ok rfl rfl rfl (fun h => by first | rfl | (dsimp only at h; rw [h]; rfl) | (rw [h]; rfl) | exact congrArg (fun m => [Value.slice _ m _]) h) mk41 (fun _ _ h => h.pick []) rfl rfl rfl rfl (by omega) ?_
           intro aq149 cq149
           refine fld fl43_1 rfl rfl rfl ?_
           refine apR (hd := ((some ⟨bkm51, 0, none⟩), nws)) (x := (Math.mapR (Math.mirVc vs i) nws)) 4 3 1 maK.ok rfl rfl rfl (fun h => by first | rfl | (dsimp only at h; rw [h]; rfl) | (rw [h]; rfl) | exact congrArg (fun m => [Value.slice _ m _]) h) mk41 (fun _ _ h => h.pick []) rfl rfl rfl rfl (by omega) ?_
           intro aq150 cq150
           refine stl (v := .slice _ _ _) 4 rfl Try.sizeOf41 (fun _ h => h.pick []) rfl rfl rfl rfl rfl (Nat.le_of_ble_eq_true rfl) ?_
           refine fld fl43_2 rfl rfl rfl ?_
           refine stf (v := .slice _ _ _) 4 rfl Try.sizeOf41 rfl rfl rfl rfl rfl (Nat.le_of_ble_eq_true rfl) ?_
           refine rNil ?_
           refine qSeq rfl ?_
           refine hReg (sq 0 (sq 1 sz)) (by kernel_rfl) ?_
           refine add rfl rfl rfl rfl (by omega) ?_
           refine mvI rfl rfl rfl ?_
           refine rNil ?_
           rw [Math.mirWs_snoc ws rfl, Math.mirVs_snoc vs rfl]
           exact qNext rfl ((i + 1, q + 1, ((aq149, cq149), (hset hd.2 (Math.mirWs ws nws i).length ((some ⟨bkm52, 0, none⟩), nws))), ((aq150, cq150), (hset he.2 (Math.mirVs vs nws i).length ((some ⟨bkm51, 0, none⟩), nws))))) (by dsimp only; omega) ⟨by dsimp only; omega, by dsimp only; omega⟩ ⟨rfl, rfl, rfl, rfl, rfl, rfl, trivial⟩ (fun _ h => h.pick [0, 0, 2, 2, 2, 2])
         ·
          refine bsl (fun _ _ h => h.pick []) rfl rfl rfl (bsl41_1 (.slice _ _ _) rfl) (fun bkl86 hbkl86 => ?_)
          refine rAlt ?_ ?_
          ·
           refine ldl Try.isAgg41 (cB 5 rfl rfl) (fun _ h => h.pick []) rfl rfl rfl ?_
           refine bsl (fun _ _ h => h.pick []) rfl rfl rfl (bsl41_1 (.slice _ _ _) rfl) (fun bkl87 hbkl87 => ?_)
           refine apR (hd := ((some ⟨bkm52, 0, none⟩), nws)) (x := (Math.mapR (Math.mirWc ws i) nws)) 5 2 0 maK.ok rfl rfl rfl (fun h => by first | rfl | (dsimp only at h; rw [h]; rfl) | (rw [h]; rfl) | exact congrArg (fun m => [Value.slice _ m _]) h) mk41 (fun _ _ h => h.pick []) rfl rfl rfl rfl (by omega) ?_
           intro aq151 cq151
           refine fld fl43_1 rfl rfl rfl ?_
           refine apR (hd := ((some ⟨bkm51, 0, none⟩), nws)) (x := (Math.mapR (Math.mirVc vs i) nws)) 4 3 2 maK.ok rfl rfl rfl (fun h => by first | rfl | (dsimp only at h; rw [h]; rfl) | (rw [h]; rfl) | exact congrArg (fun m => [Value.slice _ m _]) h) mk41 (fun _ _ h => h.pick []) rfl rfl rfl rfl (by omega) ?_
           intro aq152 cq152
           refine stl (v := .slice _ _ _) 4 rfl Try.sizeOf41 (fun _ h => h.pick []) rfl rfl rfl rfl rfl (Nat.le_of_ble_eq_true rfl) ?_
           refine fld fl43_2 rfl rfl rfl ?_
           refine stf (v := .slice _ _ _) 4 rfl Try.sizeOf41 rfl rfl rfl rfl rfl (Nat.le_of_ble_eq_true rfl) ?_
           refine rNil ?_
           refine qSeq rfl ?_
           refine hReg (sq 0 (sq 1 sz)) (by kernel_rfl) ?_
           refine add rfl rfl rfl rfl (by omega) ?_
           refine mvI rfl rfl rfl ?_
           refine rNil ?_
           rw [Math.mirWs_snoc ws rfl, Math.mirVs_snoc vs rfl]
           exact qNext rfl ((i + 1, q + 1, ((aq151, cq151), (hset hd.2 (Math.mirWs ws nws i).length ((some ⟨bkm52, 0, none⟩), nws))), ((aq152, cq152), (hset he.2 (Math.mirVs vs nws i).length ((some ⟨bkm51, 0, none⟩), nws))))) (by dsimp only; omega) ⟨by dsimp only; omega, by dsimp only; omega⟩ ⟨rfl, rfl, rfl, rfl, rfl, rfl, trivial⟩ (fun _ h => h.pick [0, 0, 2, 2, 2, 2])
          ·
           refine bsl (fun _ _ h => h.pick []) rfl rfl rfl (bsl41_1 (.slice _ _ _) rfl) (fun bkl88 hbkl88 => ?_)
           refine ldl Try.isAgg41 (cB 6 rfl rfl) (fun _ h => h.pick []) rfl rfl rfl ?_
           refine apR (hd := ((some ⟨bkm52, 0, none⟩), nws)) (x := (Math.mapR (Math.mirWc ws i) nws)) 5 2 0 maK.ok rfl rfl rfl (fun h => by first | rfl | (dsimp only at h; rw [h]; rfl) | (rw [h]; rfl) | exact congrArg (fun m => [Value.slice _ m _]) h) mk41 (fun _ _ h => h.pick []) rfl rfl rfl rfl (by omega) ?_
           intro aq153 cq153
           refine fld fl43_1 rfl rfl rfl ?_
           refine apR (hd := ((some ⟨bkm51, 0, none⟩), nws)) (x := (Math.mapR (Math.mirVc vs i) nws)) 4 3 2 maK.ok rfl rfl rfl (fun h => by first | rfl | (dsimp only at h; rw [h]; rfl) | (rw [h]; rfl) | exact congrArg (fun m => [Value.slice _ m _]) h) mk41 (fun _ _ h => h.pick []) rfl rfl rfl rfl (by omega) ?_
           intro aq154 cq154
           refine stl (v := .slice _ _ _) 4 rfl Try.sizeOf41 (fun _ h => h.pick []) rfl rfl rfl rfl rfl (Nat.le_of_ble_eq_true rfl) ?_
           refine fld fl43_2 rfl rfl rfl ?_
           refine stf (v := .slice _ _ _) 4 rfl Try.sizeOf41 rfl rfl rfl rfl rfl (Nat.le_of_ble_eq_true rfl) ?_
           refine rNil ?_
           refine qSeq rfl ?_
           refine hReg (sq 0 (sq 1 sz)) (by kernel_rfl) ?_
           refine add rfl rfl rfl rfl (by omega) ?_
           refine mvI rfl rfl rfl ?_
           refine rNil ?_
           rw [Math.mirWs_snoc ws rfl, Math.mirVs_snoc vs rfl]
           exact qNext rfl ((i + 1, q + 1, ((aq153, cq153), (hset hd.2 (Math.mirWs ws nws i).length ((some ⟨bkm52, 0, none⟩), nws))), ((aq154, cq154), (hset he.2 (Math.mirVs vs nws i).length ((some ⟨bkm51, 0, none⟩), nws))))) (by dsimp only; omega) ⟨by dsimp only; omega, by dsimp only; omega⟩ ⟨rfl, rfl, rfl, rfl, rfl, rfl, trivial⟩ (fun _ h => h.pick [0, 0, 2, 2, 2, 2])
       ·
        refine bsl (fun _ _ h => h.pick []) rfl rfl rfl (bsl41_1 (.slice _ _ _) rfl) (fun bkl89 hbkl89 => ?_)
        refine rAlt ?_ ?_
        ·
         refine ldl Try.isAgg41 (cB 5 rfl rfl) (fun _ h => h.pick []) rfl rfl rfl ?_
         refine rAlt ?_ ?_
         ·
          refine bsl (fun _ _ h => h.pick []) rfl rfl rfl (bsl41_1 (.slice _ _ _) rfl) (fun bkl90 hbkl90 => ?_)
          refine rAlt ?_ ?_
          ·
           refine apR (hd := ((some ⟨bkm52, 0, none⟩), nws)) (x := (Math.mapR (Math.mirWc ws i) nws)) 5 2 0 maK.ok rfl rfl rfl (fun h => by first | rfl | (dsimp only at h; rw [h]; rfl) | (rw [h]; rfl) | exact congrArg (fun m => [Value.slice _ m _]) h) mk41 (fun _ _ h => h.pick []) rfl rfl rfl rfl (by omega) ?_
           intro aq155 cq155
           refine ldl Try.isAgg41 (cB 5 rfl rfl) (fun _ h => h.pick []) rfl rfl rfl ?_
           refine fld fl43_1 rfl rfl rfl ?_
           refine apR (hd := ((some ⟨bkm51, 0, none⟩), nws)) (x := (Math.mapR (Math.mirVc vs i) nws)) 4 3 2 maK.ok rfl rfl rfl (fun h => by first | rfl | (dsimp only at h; rw [h]; rfl) | (rw [h]; rfl) | exact congrArg (fun m => [Value.slice _ m _]) h) mk41 (fun _ _ h => h.pick []) rfl rfl rfl rfl (by omega) ?_
           intro aq156 cq156
           refine stl (v := .slice _ _ _) 4 rfl Try.sizeOf41 (fun _ h => h.pick []) rfl rfl rfl rfl rfl (Nat.le_of_ble_eq_true rfl) ?_
           refine fld fl43_2 rfl rfl rfl ?_
           refine stf (v := .slice _ _ _) 4 rfl Try.sizeOf41 rfl rfl rfl rfl rfl (Nat.le_of_ble_eq_true rfl) ?_
           refine rNil ?_
           refine qSeq rfl ?_
           refine hReg (sq 0 (sq 1 sz)) (by kernel_rfl) ?_
           refine add rfl rfl rfl rfl (by omega) ?_
           refine mvI rfl rfl rfl ?_
           refine rNil ?_
           rw [Math.mirWs_snoc ws rfl, Math.mirVs_snoc vs rfl]
           exact qNext rfl ((i + 1, q + 1, ((aq155, cq155), (hset hd.2 (Math.mirWs ws nws i).length ((some ⟨bkm52, 0, none⟩), nws))), ((aq156, cq156), (hset he.2 (Math.mirVs vs nws i).length ((some ⟨bkm51, 0, none⟩), nws))))) (by dsimp only; omega) ⟨by dsimp only; omega, by dsimp only; omega⟩ ⟨rfl, rfl, rfl, rfl, rfl, rfl, trivial⟩ (fun _ h => h.pick [0, 0, 2, 2, 2, 2])
          ·
           refine ldl Try.isAgg41 (cB 6 rfl rfl) (fun _ h => h.pick []) rfl rfl rfl ?_
           refine apR (hd := ((some ⟨bkm52, 0, none⟩), nws)) (x := (Math.mapR (Math.mirWc ws i) nws)) 5 2 0 maK.ok rfl rfl rfl (fun h => by first | rfl | (dsimp only at h; rw [h]; rfl) | (rw [h]; rfl) | exact congrArg (fun m => [Value.slice _ m _]) h) mk41 (fun _ _ h => h.pick []) rfl rfl rfl rfl (by omega) ?_
           intro aq157 cq157
           refine fld fl43_1 rfl rfl rfl ?_
           refine apR (hd := ((some ⟨bkm51, 0, none⟩), nws)) (x := (Math.mapR (Math.mirVc vs i) nws)) 4 3 2 maK.ok rfl rfl rfl (fun h => by first | rfl | (dsimp only at h; rw [h]; rfl) | (rw [h]; rfl) | exact congrArg (fun m => [Value.slice _ m _]) h) mk41 (fun _ _ h => h.pick []) rfl rfl rfl rfl (by omega) ?_
           intro aq158 cq158
           refine stl (v := .slice _ _ _) 4 rfl Try.sizeOf41 (fun _ h => h.pick []) rfl rfl rfl rfl rfl (Nat.le_of_ble_eq_true rfl) ?_
           refine fld fl43_2 rfl rfl rfl ?_
           refine stf (v := .slice _ _ _) 4 rfl Try.sizeOf41 rfl rfl rfl rfl rfl (Nat.le_of_ble_eq_true rfl) ?_
           refine rNil ?_
           refine qSeq rfl ?_
           refine hReg (sq 0 (sq 1 sz)) (by kernel_rfl) ?_
           refine add rfl rfl rfl rfl (by omega) ?_
           refine mvI rfl rfl rfl ?_
           refine rNil ?_
           rw [Math.mirWs_snoc ws rfl, Math.mirVs_snoc vs rfl]
           exact qNext rfl ((i + 1, q + 1, ((aq157, cq157), (hset hd.2 (Math.mirWs ws nws i).length ((some ⟨bkm52, 0, none⟩), nws))), ((aq158, cq158), (hset he.2 (Math.mirVs vs nws i).length ((some ⟨bkm51, 0, none⟩), nws))))) (by dsimp only; omega) ⟨by dsimp only; omega, by dsimp only; omega⟩ ⟨rfl, rfl, rfl, rfl, rfl, rfl, trivial⟩ (fun _ h => h.pick [0, 0, 2, 2, 2, 2])
         ·
          refine ldl Try.isAgg41 (cB 5 rfl rfl) (fun _ h => h.pick []) rfl rfl rfl ?_
          refine bsl (fun _ _ h => h.pick []) rfl rfl rfl (bsl41_1 (.slice _ _ _) rfl) (fun bkl91 hbkl91 => ?_)
          refine apR (hd := ((some ⟨bkm52, 0, none⟩), nws)) (x := (Math.mapR (Math.mirWc ws i) nws)) 5 2 0 maK.ok rfl rfl rfl (fun h => by first | rfl | (dsimp only at h; rw [h]; rfl) | (rw [h]; rfl) | exact congrArg (fun m => [Value.slice _ m _]) h) mk41 (fun _ _ h => h.pick []) rfl rfl rfl rfl (by omega) ?_
          intro aq159 cq159
          refine fld fl43_1 rfl rfl rfl ?_
          refine apR (hd := ((some ⟨bkm51, 0, none⟩), nws)) (x := (Math.mapR (Math.mirVc vs i) nws)) 4 3 2 maK.ok rfl rfl rfl (fun h => by first | rfl | (dsimp only at h; rw [h]; rfl) | (rw [h]; rfl) | exact congrArg (fun m => [Value.slice _ m _]) h) mk41 (fun _ _ h => h.pick []) rfl rfl rfl rfl (by omega) ?_
          intro aq160 cq160
          refine stl (v := .slice _ _ _) 4 rfl Try.sizeOf41 (fun _ h => h.pick []) rfl rfl rfl rfl rfl (Nat.le_of_ble_eq_true rfl) ?_
          refine fld fl43_2 rfl rfl rfl ?_
          refine stf (v := .slice _ _ _) 4 rfl Try.sizeOf41 rfl rfl rfl rfl rfl (Nat.le_of_ble_eq_true rfl) ?_
          refine rNil ?_
          refine qSeq rfl ?_
          refine hReg (sq 0 (sq 1 sz)) (by kernel_rfl) ?_
          refine add rfl rfl rfl rfl (by omega) ?_
          refine mvI rfl rfl rfl ?_
          refine rNil ?_
          rw [Math.mirWs_snoc ws rfl, Math.mirVs_snoc vs rfl]
          exact qNext rfl ((i + 1, q + 1, ((aq159, cq159), (hset hd.2 (Math.mirWs ws nws i).length ((some ⟨bkm52, 0, none⟩), nws))), ((aq160, cq160), (hset he.2 (Math.mirVs vs nws i).length ((some ⟨bkm51, 0, none⟩), nws))))) (by dsimp only; omega) ⟨by dsimp only; omega, by dsimp only; omega⟩ ⟨rfl, rfl, rfl, rfl, rfl, rfl, trivial⟩ (fun _ h => h.pick [0, 0, 2, 2, 2, 2])
        ·
         refine rAlt ?_ ?_
         ·
          refine bsl (fun _ _ h => h.pick []) rfl rfl rfl (bsl41_1 (.slice _ _ _) rfl) (fun bkl92 hbkl92 => ?_)
          refine rAlt ?_ ?_
          ·
           refine ldl Try.isAgg41 (cB 6 rfl rfl) (fun _ h => h.pick []) rfl rfl rfl ?_
           refine rAlt ?_ ?_
           ·
            refine apR (hd := ((some ⟨bkm52, 0, none⟩), nws)) (x := (Math.mapR (Math.mirWc ws i) nws)) 5 2 0 maK.ok rfl rfl rfl (fun h => by first | rfl | (dsimp only at h; rw [h]; rfl) | (rw [h]; rfl) | exact congrArg (fun m => [Value.slice _ m _]) h) mk41 (fun _ _ h => h.pick []) rfl rfl rfl rfl (by omega) ?_
            intro aq161 cq161
            refine ldl Try.isAgg41 (cB 5 rfl rfl) (fun _ h => h.pick []) rfl rfl rfl ?_
            refine fld fl43_1 rfl rfl rfl ?_
            refine apR (hd := ((some ⟨bkm51, 0, none⟩), nws)) (x := (Math.mapR (Math.mirVc vs i) nws)) 4 3 2 maK.ok rfl rfl rfl (fun h => by first | rfl | (dsimp only at h; rw [h]; rfl) | (rw [h]; rfl) | exact congrArg (fun m => [Value.slice _ m _]) h) mk41 (fun _ _ h => h.pick []) rfl rfl rfl rfl (by omega) ?_
            intro aq162 cq162
            refine stl (v := .slice _ _ _) 4 rfl Try.sizeOf41 (fun _ h => h.pick []) rfl rfl rfl rfl rfl (Nat.le_of_ble_eq_true rfl) ?_
            refine fld fl43_2 rfl rfl rfl ?_
            refine stf (v := .slice _ _ _) 4 rfl Try.sizeOf41 rfl rfl rfl rfl rfl (Nat.le_of_ble_eq_true rfl) ?_
            refine rNil ?_
            refine qSeq rfl ?_
            refine hReg (sq 0 (sq 1 sz)) (by kernel_rfl) ?_
            refine add rfl rfl rfl rfl (by omega) ?_
            refine mvI rfl rfl rfl ?_
            refine rNil ?_
            rw [Math.mirWs_snoc ws rfl, Math.mirVs_snoc vs rfl]
            exact qNext rfl ((i + 1, q + 1, ((aq161, cq161), (hset hd.2 (Math.mirWs ws nws i).length ((some ⟨bkm52, 0, none⟩), nws))), ((aq162, cq162), (hset he.2 (Math.mirVs vs nws i).length ((some ⟨bkm51, 0, none⟩), nws))))) (by dsimp only; omega) ⟨by dsimp only; omega, by dsimp only; omega⟩ ⟨rfl, rfl, rfl, rfl, rfl, rfl, trivial⟩ (fun _ h => h.pick [0, 0, 2, 2, 2, 2])
           ·
            refine ldl Try.isAgg41 (cB 6 rfl rfl) (fun _ h => h.pick []) rfl rfl rfl ?_
            refine apR (hd := ((some ⟨bkm52, 0, none⟩), nws)) (x := (Math.mapR (Math.mirWc ws i) nws)) 5 2 0 maK.ok rfl rfl rfl (fun h => by first | rfl | (dsimp only at h; rw [h]; rfl) | (rw [h]; rfl) | exact congrArg (fun m => [Value.slice _ m _]) h) mk41 (fun _ _ h => h.pick []) rfl rfl rfl rfl (by omega) ?_
            intro aq163 cq163
            refine fld fl43_1 rfl rfl rfl ?_
            refine apR (hd := ((some ⟨bkm51, 0, none⟩), nws)) (x := (Math.mapR (Math.mirVc vs i) nws)) 4 3 2 maK.ok rfl rfl rfl (fun h => by first | rfl | (dsimp only at h; rw [h]; rfl) | (rw [h]; rfl) | exact congrArg (fun m => [Value.slice _ m _]) h) mk41 (fun _ _ h => h.pick []) rfl rfl rfl rfl (by omega) ?_
            intro aq164 cq164
            refine stl (v := .slice _ _ _) 4 rfl Try.sizeOf41 (fun _ h => h.pick []) rfl rfl rfl rfl rfl (Nat.le_of_ble_eq_true rfl) ?_
            refine fld fl43_2 rfl rfl rfl ?_
            refine stf (v := .slice _ _ _) 4 rfl Try.sizeOf41 rfl rfl rfl rfl rfl (Nat.le_of_ble_eq_true rfl) ?_
            refine rNil ?_
            refine qSeq rfl ?_
            refine hReg (sq 0 (sq 1 sz)) (by kernel_rfl) ?_
            refine add rfl rfl rfl rfl (by omega) ?_
            refine mvI rfl rfl rfl ?_
            refine rNil ?_
            rw [Math.mirWs_snoc ws rfl, Math.mirVs_snoc vs rfl]
            exact qNext rfl ((i + 1, q + 1, ((aq163, cq163), (hset hd.2 (Math.mirWs ws nws i).length ((some ⟨bkm52, 0, none⟩), nws))), ((aq164, cq164), (hset he.2 (Math.mirVs vs nws i).length ((some ⟨bkm51, 0, none⟩), nws))))) (by dsimp only; omega) ⟨by dsimp only; omega, by dsimp only; omega⟩ ⟨rfl, rfl, rfl, rfl, rfl, rfl, trivial⟩ (fun _ h => h.pick [0, 0, 2, 2, 2, 2])
          ·
           refine ldl Try.isAgg41 (cB 6 rfl rfl) (fun _ h => h.pick []) rfl rfl rfl ?_
           refine ldl Try.isAgg41 (cB 6 rfl rfl) (fun _ h => h.pick []) rfl rfl rfl ?_
           refine apR (hd := ((some ⟨bkm52, 0, none⟩), nws)) (x := (Math.mapR (Math.mirWc ws i) nws)) 5 2 0 maK.ok rfl rfl rfl (fun h => by first | rfl | (dsimp only at h; rw [h]; rfl) | (rw [h]; rfl) | exact congrArg (fun m => [Value.slice _ m _]) h) mk41 (fun _ _ h => h.pick []) rfl rfl rfl rfl (by omega) ?_
           intro aq165 cq165
           refine fld fl43_1 rfl rfl rfl ?_
           refine apR (hd := ((some ⟨bkm51, 0, none⟩), nws)) (x := (Math.mapR (Math.mirVc vs i) nws)) 4 3 2 maK.ok rfl rfl rfl (fun h => by first | rfl | (dsimp only at h; rw [h]; rfl) | (rw [h]; rfl) | exact congrArg (fun m => [Value.slice _ m _]) h) mk41 (fun _ _ h => h.pick []) rfl rfl rfl rfl (by omega) ?_
           intro aq166 cq166
           refine stl (v := .slice _ _ _) 4 rfl Try.sizeOf41 (fun _ h => h.pick []) rfl rfl rfl rfl rfl (Nat.le_of_ble_eq_true rfl) ?_
           refine fld fl43_2 rfl rfl rfl ?_
           refine stf (v := .slice _ _ _) 4 rfl Try.sizeOf41 rfl rfl rfl rfl rfl (Nat.le_of_ble_eq_true rfl) ?_
           refine rNil ?_
           refine qSeq rfl ?_
           refine hReg (sq 0 (sq 1 sz)) (by kernel_rfl) ?_
           refine add rfl rfl rfl rfl (by omega) ?_
           refine mvI rfl rfl rfl ?_
           refine rNil ?_
           rw [Math.mirWs_snoc ws rfl, Math.mirVs_snoc vs rfl]
           exact qNext rfl ((i + 1, q + 1, ((aq165, cq165), (hset hd.2 (Math.mirWs ws nws i).length ((some ⟨bkm52, 0, none⟩), nws))), ((aq166, cq166), (hset he.2 (Math.mirVs vs nws i).length ((some ⟨bkm51, 0, none⟩), nws))))) (by dsimp only; omega) ⟨by dsimp only; omega, by dsimp only; omega⟩ ⟨rfl, rfl, rfl, rfl, rfl, rfl, trivial⟩ (fun _ h => h.pick [0, 0, 2, 2, 2, 2])
         ·
          refine ldl Try.isAgg41 (cB 5 rfl rfl) (fun _ h => h.pick []) rfl rfl rfl ?_
          refine rAlt ?_ ?_
          ·
           refine ldl Try.isAgg41 (cB 5 rfl rfl) (fun _ h => h.pick []) rfl rfl rfl ?_
           refine bsl (fun _ _ h => h.pick []) rfl rfl rfl (bsl41_1 (.slice _ _ _) rfl) (fun bkl93 hbkl93 => ?_)
           refine apR (hd := ((some ⟨bkm52, 0, none⟩), nws)) (x := (Math.mapR (Math.mirWc ws i) nws)) 5 2 0 maK.ok rfl rfl rfl (fun h => by first | rfl | (dsimp only at h; rw [h]; rfl) | (rw [h]; rfl) | exact congrArg (fun m => [Value.slice _ m _]) h) mk41 (fun _ _ h => h.pick []) rfl rfl rfl rfl (by omega) ?_
           intro aq167 cq167
           refine fld fl43_1 rfl rfl rfl ?_
           refine apR (hd := ((some ⟨bkm51, 0, none⟩), nws)) (x := (Math.mapR (Math.mirVc vs i) nws)) 4 3 2 maK.ok rfl rfl rfl (fun h => by first | rfl | (dsimp only at h; rw [h]; rfl) | (rw [h]; rfl) | exact congrArg (fun m => [Value.slice _ m _]) h) mk41 (fun _ _ h => h.pick []) rfl rfl rfl rfl (by omega) ?_
           intro aq168 cq168
           refine stl (v := .slice _ _ _) 4 rfl Try.sizeOf41 (fun _ h => h.pick []) rfl rfl rfl rfl rfl (Nat.le_of_ble_eq_true rfl) ?_
           refine fld fl43_2 rfl rfl rfl ?_
           refine stf (v := .slice _ _ _) 4 rfl Try.sizeOf41 rfl rfl rfl rfl rfl (Nat.le_of_ble_eq_true rfl) ?_
           refine rNil ?_
           refine qSeq rfl ?_
           refine hReg (sq 0 (sq 1 sz)) (by kernel_rfl) ?_
           refine add rfl rfl rfl rfl (by omega) ?_
           refine mvI rfl rfl rfl ?_
           refine rNil ?_
           rw [Math.mirWs_snoc ws rfl, Math.mirVs_snoc vs rfl]
           exact qNext rfl ((i + 1, q + 1, ((aq167, cq167), (hset hd.2 (Math.mirWs ws nws i).length ((some ⟨bkm52, 0, none⟩), nws))), ((aq168, cq168), (hset he.2 (Math.mirVs vs nws i).length ((some ⟨bkm51, 0, none⟩), nws))))) (by dsimp only; omega) ⟨by dsimp only; omega, by dsimp only; omega⟩ ⟨rfl, rfl, rfl, rfl, rfl, rfl, trivial⟩ (fun _ h => h.pick [0, 0, 2, 2, 2, 2])
          ·
           refine bsl (fun _ _ h => h.pick []) rfl rfl rfl (bsl41_1 (.slice _ _ _) rfl) (fun bkl94 hbkl94 => ?_)
           refine ldl Try.isAgg41 (cB 6 rfl rfl) (fun _ h => h.pick []) rfl rfl rfl ?_
           refine apR (hd := ((some ⟨bkm52, 0, none⟩), nws)) (x := (Math.mapR (Math.mirWc ws i) nws)) 5 2 0 maK.ok rfl rfl rfl (fun h => by first | rfl | (dsimp only at h; rw [h]; rfl) | (rw [h]; rfl) | exact congrArg (fun m => [Value.slice _ m _]) h) mk41 (fun _ _ h => h.pick []) rfl rfl rfl rfl (by omega) ?_
           intro aq169 cq169
           refine fld fl43_1 rfl rfl rfl ?_
           refine apR (hd := ((some ⟨bkm51, 0, none⟩), nws)) (x := (Math.mapR (Math.mirVc vs i) nws)) 4 3 2 maK.ok rfl rfl rfl (fun h => by first | rfl | (dsimp only at h; rw [h]; rfl) | (rw [h]; rfl) | exact congrArg (fun m => [Value.slice _ m _]) h) mk41 (fun _ _ h => h.pick []) rfl rfl rfl rfl (by omega) ?_
           intro aq170 cq170
           refine stl (v := .slice _ _ _) 4 rfl Try.sizeOf41 (fun _ h => h.pick []) rfl rfl rfl rfl rfl (Nat.le_of_ble_eq_true rfl) ?_
           refine fld fl43_2 rfl rfl rfl ?_
           refine stf (v := .slice _ _ _) 4 rfl Try.sizeOf41 rfl rfl rfl rfl rfl (Nat.le_of_ble_eq_true rfl) ?_
           refine rNil ?_
           refine qSeq rfl ?_
           refine hReg (sq 0 (sq 1 sz)) (by kernel_rfl) ?_
           refine add rfl rfl rfl rfl (by omega) ?_
           refine mvI rfl rfl rfl ?_
           refine rNil ?_
           rw [Math.mirWs_snoc ws rfl, Math.mirVs_snoc vs rfl]
           exact qNext rfl ((i + 1, q + 1, ((aq169, cq169), (hset hd.2 (Math.mirWs ws nws i).length ((some ⟨bkm52, 0, none⟩), nws))), ((aq170, cq170), (hset he.2 (Math.mirVs vs nws i).length ((some ⟨bkm51, 0, none⟩), nws))))) (by dsimp only; omega) ⟨by dsimp only; omega, by dsimp only; omega⟩ ⟨rfl, rfl, rfl, rfl, rfl, rfl, trivial⟩ (fun _ h => h.pick [0, 0, 2, 2, 2, 2])
  ·
   replace c8 : ¬ ((i : Int) < (nws : Int)) := c8
   refine hExit rfl ?_
   refine qSeq rfl ?_
   refine hSeq ?_
   refine hReg (sl 0 (sl 1 sz)) (by kernel_rfl) ?_
   refine ldAl Try.isAgg43 Try.sizeOf43 (cBs 2 rfl) trv rfl rfl rfl rfl ?_
   refine stAl (vs := [.slice ay1 ny1 cy1, .slice hd.1.1 q hd.1.2, .slice he.1.1 q he.1.2]) 4 rfl Try.sizeOf43 trv rfl rfl rfl rfl rfl (by simp [Value.oneCell']) rfl ?_
   refine rNil ?_
   refine qSeq rfl ?_
   refine hRet ?_
   exact fun w hs => ⟨[_], ⟨⟨_, rfl, run_load_agg Try.isAgg43 Try.sizeOf43 rfl (cBs 4 rfl w hs)⟩, trivial⟩, ⟨(ay1, ny1, cy1, Hy1, (z.map Math.mirN), hd.1.1, q, hd.1.2, hd.2, (Math.mirWs ws nws i), he.1.1, q, he.1.2, he.2, (Math.mirVs vs nws i)), rfl, ⟨rfl, by rw [show i = nws from by omega], by rw [show i = nws from by omega]⟩, hs.pick [3, 1, 0]⟩⟩
theorem impl_MirrorGame_c (az : Option Addr) (nz : Nat) (cz : Nat) (Hz : Nat → Hd) (z : List Nd) (aws : Option Addr) (nws : Nat) (cws : Nat) (Hws : Nat → Hd) (ws : List (List Int)) (avs : Option Addr) (nvs : Nat) (cvs : Nat) (Hvs : Nat → Hd) (vs : List (List Int)) (w : World) (rz : RdR ndK az nz Hz z w) (rws : RdR maK aws nws Hws ws w) (rvs : RdR maK avs nvs Hvs vs w) :
  Calls Try.prog 32 #[.agg #[.slice az nz cz, .slice aws nws cws, .slice avs nvs cvs]] w (Ret fun v w' => ∃ x : Option Addr × Nat × Nat × (Nat → Hd) × List Nd × Option Addr × Nat × Nat × (Nat → Hd) × List (List Int) × Option Addr × Nat × Nat × (Nat → Hd) × List (List Int) × Int, v = .tuple #[.agg #[.slice x.1 x.2.1 x.2.2.1, .slice x.2.2.2.2.2.1 x.2.2.2.2.2.2.1 x.2.2.2.2.2.2.2.1, .slice x.2.2.2.2.2.2.2.2.2.2.1 x.2.2.2.2.2.2.2.2.2.2.2.1 x.2.2.2.2.2.2.2.2.2.2.2.2.1], .int .i64 x.2.2.2.2.2.2.2.2.2.2.2.2.2.2.2] ∧ (x.2.2.2.2.1 = (Math.mirAt z ws vs).1.1 ∧ x.2.2.2.2.2.2.2.2.2.1 = (Math.mirAt z ws vs).1.2.1 ∧ x.2.2.2.2.2.2.2.2.2.2.2.2.2.2.1 = (Math.mirAt z ws vs).1.2.2 ∧ x.2.2.2.2.2.2.2.2.2.2.2.2.2.2.2 = (Math.mirAt z ws vs).2) ∧ Sep w none_ [OwnR ndK 88 2 x.1 x.2.1 x.2.2.1 x.2.2.2.1 x.2.2.2.2.1, OwnR maK 28 2 x.2.2.2.2.2.1 x.2.2.2.2.2.2.1 x.2.2.2.2.2.2.2.1 x.2.2.2.2.2.2.2.2.1 x.2.2.2.2.2.2.2.2.2.1, OwnR maK 28 2 x.2.2.2.2.2.2.2.2.2.2.1 x.2.2.2.2.2.2.2.2.2.2.2.1 x.2.2.2.2.2.2.2.2.2.2.2.2.1 x.2.2.2.2.2.2.2.2.2.2.2.2.2.1 x.2.2.2.2.2.2.2.2.2.2.2.2.2.2.1] w') := by
 have kz : Kn w none_ [] (RdR ndK az nz Hz z) := fun w' hs => rz.ext hs.upd
 have lz : z.length = nz := rz.1
 have mz : nz ≤ 9223372036854775807 := rz.2.1
 have kws : Kn w none_ [] (RdR maK aws nws Hws ws) := fun w' hs => rws.ext hs.upd
 have lws : ws.length = nws := rws.1
 have mws : nws ≤ 9223372036854775807 := rws.2.1
 have kvs : Kn w none_ [] (RdR maK avs nvs Hvs vs) := fun w' hs => rvs.ext hs.upd
 have lvs : vs.length = nvs := rvs.1
 have mvs : nvs ≤ 9223372036854775807 := rvs.2.1
 refine fn (M := none_) (rs := [.cell 2 43, .tmp 3]) Try.func32 rfl Try.ntmps32 rfl rfl (Sep.start _ _) ?_
 refine hSeq ?_
 refine hReg (sl 0 (sl 1 (sq 2 sz))) (by kernel_rfl) ?_
 refine box trv1 rfl rfl rfl rfl (fun bkb1 hbkb1 => ?_)
 refine alc Try.zeroValue43 rfl trv1 rfl rfl (fun bka2 hbka2 => ?_)
 refine asI rfl rfl rfl ?_
 refine rNil ?_
 refine qSeq rfl ?_
 refine hSeq ?_
 refine hSeq ?_
 refine hReg (sl 0 (sl 1 (sq 2 sz))) (by kernel_rfl) ?_
 refine ldAl Try.isAgg43 Try.sizeOf43 (cBs 1 rfl) trv rfl rfl rfl rfl ?_
 refine callP (v := .bool (Math.isGame z ws vs)) Try.call38 trv rfl rfl (fun w hs => impl_IsGame_c _ nz cz _ _ _ nws cws _ _ _ nvs cvs _ _ w (Kn.drop (k := 2) kz w hs) (Kn.drop (k := 2) kws w hs) (Kn.drop (k := 2) kvs w hs)) ?_
 refine not rfl rfl rfl ?_
 refine rNil ?_
 refine qSeq rfl ?_
 refine hIfN rfl (fun c1 => ?_) (fun c1 => ?_)
 ·
  replace c1 : (Math.isGame z ws vs) = false := c1
  refine hSeq ?_
  refine hReg (sq 0 (sl 1 (sq 2 sz))) (by kernel_rfl) ?_
  refine bld rfl rfl rfl (bld43) ?_
  refine stAl (vs := [.slice none 0 0, .slice none 0 0, .slice none 0 0]) 0 rfl Try.sizeOf43 trv rfl rfl rfl rfl rfl (by simp [Value.oneCell']) rfl ?_
  refine asI rfl rfl rfl ?_
  refine rNil ?_
  refine qSeq rfl ?_
  refine hRet ?_
  refine knP (fun _ h => Sep.nilR ndK 88 2 (fun _ => (none, 0)) h) ?_
  refine knP (fun _ h => Sep.nilR maK 28 2 (fun _ => (none, 0)) h) ?_
  refine knP (fun _ h => Sep.nilR maK 28 2 (fun _ => (none, 0)) h) ?_
  exact fun w hs => ⟨[_, .int .i64 1], ⟨⟨_, rfl, run_load_agg Try.isAgg43 Try.sizeOf43 rfl (cBs 3 rfl w hs)⟩, ⟨rfl, trivial⟩⟩, ⟨(none, 0, 0, (fun _ => (none, 0)), [], none, 0, 0, (fun _ => (none, 0)), [], none, 0, 0, (fun _ => (none, 0)), [], 1), rfl, by rw [Math.mirAt_1 c1]; exact ⟨rfl, rfl, rfl, rfl⟩, hs.pick [2, 1, 0]⟩⟩
 ·
  replace c1 : (Math.isGame z ws vs) = true := c1
  refine hSkip ?_
  refine qSeq rfl ?_
  refine hSeq ?_
  refine hReg (sl 0 (sl 1 (sl 2 (sq 3 sz)))) (by kernel_rfl) ?_
  refine ldAl Try.isAgg43 Try.sizeOf43 (cBs 1 rfl) trv rfl rfl rfl rfl ?_
  refine callS Try.call107 trv1 rfl rfl (fun w hs => impl_mirrored_c _ nz cz _ _ _ nws cws _ _ _ nvs cvs _ _ w (Kn.drop (k := 2) kz w hs) (Kn.drop (k := 2) kws w hs) (Kn.drop (k := 2) kvs w hs) (by assumption)) ?_
  rintro ⟨ay1, ny1, cy1, Hy1, y1, ayw1, nyw1, cyw1, Hyw1, yw1, ayv1, nyv1, cyv1, Hyv1, yv1⟩ ⟨hr1a, hr1b, hr1c⟩
  dsimp only at hr1a hr1b hr1c
  subst y1
  subst yw1
  subst yv1
  refine rKnow (fun w hs => (show OwnR ndK 88 2 ay1 ny1 cy1 Hy1 (z.map Math.mirN) w from hs.at_ 0 rfl).1) (fun lenn6 => ?_)
  refine rKnow (fun w hs => (show OwnR maK 28 2 ayw1 nyw1 cyw1 Hyw1 (Math.mirWs ws nws nws) w from hs.at_ 1 rfl).1) (fun lenn7 => ?_)
  refine rKnow (fun w hs => (show OwnR maK 28 2 ayv1 nyv1 cyv1 Hyv1 (Math.mirVs vs nws nws) w from hs.at_ 2 rfl).1) (fun lenn8 => ?_)
  refine stAl (vs := [.slice ay1 ny1 cy1, .slice ayw1 nyw1 cyw1, .slice ayv1 nyv1 cyv1]) 3 rfl Try.sizeOf43 trv rfl rfl rfl rfl rfl (by simp [Value.oneCell']) rfl ?_
  refine asI rfl rfl rfl ?_
  refine rNil ?_
  refine qSeq rfl ?_
  refine hRet ?_
  exact fun w hs => ⟨[_, .int .i64 0], ⟨⟨_, rfl, run_load_agg Try.isAgg43 Try.sizeOf43 rfl (cBs 3 rfl w hs)⟩, ⟨rfl, trivial⟩⟩, ⟨(ay1, ny1, cy1, Hy1, (z.map Math.mirN), ayw1, nyw1, cyw1, Hyw1, (Math.mirWs ws nws nws), ayv1, nyv1, cyv1, Hyv1, (Math.mirVs vs nws nws), 0), rfl, by rw [Math.mirAt_0 lws c1]; exact ⟨rfl, rfl, rfl, rfl⟩, hs.pick [0, 0, 0]⟩⟩
end Go.Proofs.Ytjengglpbdgmnaa
