/- Contracts of strategies. Their conditions stand in each. -/
import Derived.Test.YtjengglpbdgmnaaZ7Nu
import Derived.Test.YtjengglpbdgmnaaZ2Nu
import Derived.Test.YtjengglpbdgmnaaZ3Nu
import Derived.Test.YtjengglpbdgmnaaZ4Nu
import Derived.Test.YtjengglpbdgmnaaRows
import Derived.Test.YtjengglpbdgmnaaZ5Nu
namespace Go.Proofs.Ytjengglpbdgmnaa
open Go Go.RowKit V
set_option linter.unusedVariables false
set_option linter.unusedSimpArgs false
set_option maxRecDepth 100000
theorem fl56_0 : Fld Try.prog 56 0 0 := by
 intro w ad; simp [Instr.fieldAt, Try.runUnderlying56, Instr.sureAddr, fieldPlace, Try.sizeOf2]
theorem fl56_1 : Fld Try.prog 56 1 1 := by
 intro w ad; simp [Instr.fieldAt, Try.runUnderlying56, Instr.sureAddr, fieldPlace, Try.sizeOf41]
theorem spec_l22Sizes_c (az : Option Addr) (nz : Nat) (cz : Nat) (Hz : Nat → Hd) (z : List Nd) (aws : Option Addr) (nws : Nat) (cws : Nat) (Hws : Nat → Hd) (ws : List (List Int)) (avs : Option Addr) (nvs : Nat) (cvs : Nat) (Hvs : Nat → Hd) (vs : List (List Int)) (p : Int) (w : World) (rz : RdR ndK az nz Hz z w) (rws : RdR maK aws nws Hws ws w) (rvs : RdR maK avs nvs Hvs vs w) (hg : Math.isGame z ws vs = true) :
  Calls Try.prog 132 #[.agg #[.slice az nz cz, .slice aws nws cws, .slice avs nvs cvs], .int .i64 p] w (Ret fun v w' => ∃ x : Option Addr × Nat × Nat × List Int, v = .slice x.1 x.2.1 x.2.2.1 ∧ (x.2.2.2 = Math.sizes z (Math.sets z nws p)) ∧ Sep w none_ [OwnI 2 x.1 x.2.1 x.2.2.1 x.2.2.2] w') := by
 have kz : Kn w none_ [] (RdR ndK az nz Hz z) := fun w' hs => rz.ext hs.upd
 have lz : z.length = nz := rz.1
 have mz : nz ≤ 9223372036854775807 := rz.2.1
 have kws : Kn w none_ [] (RdR maK aws nws Hws ws) := fun w' hs => rws.ext hs.upd
 have lws : ws.length = nws := rws.1
 have mws : nws ≤ 9223372036854775807 := rws.2.1
 have kvs : Kn w none_ [] (RdR maK avs nvs Hvs vs) := fun w' hs => rvs.ext hs.upd
 have lvs : vs.length = nvs := rvs.1
 have mvs : nvs ≤ 9223372036854775807 := rvs.2.1
 have hG := Math.isGame_ok hg
 rw [lws] at hG
 have hT := Math.isTree_ok hG.1
 have hvl := Math.mat_len hG.2.2.2.1
 have hsl := Math.sets_len (z := z) (p := p) (show nws ≤ 6 by omega)
 refine fn (M := none_) (rs := [.tmp 4]) Try.func132 rfl Try.ntmps132 rfl rfl (Sep.start _ _) ?_
 refine hSeq ?_
 refine hReg (sl 0 (sq 1 sz)) (by kernel_rfl) ?_
 refine box trv1 rfl rfl rfl rfl (fun bkb1 hbkb1 => ?_)
 refine asS rfl rfl rfl ?_
 refine rNil ?_
 refine qSeq rfl ?_
 refine hSeq ?_
 refine hReg (sl 0 (sq 1 (sl 2 (sq 3 sz)))) (by kernel_rfl) ?_
 refine ldAl Try.isAgg43 Try.sizeOf43 (cBs 0 rfl) trv rfl rfl rfl rfl ?_
 refine mvI rfl rfl rfl ?_
 refine callS Try.call117 trv1 rfl rfl (fun w hs => spec_l21Sets_c _ nz cz _ _ _ nws cws _ _ _ nvs cvs _ _ _ w (Kn.drop (k := 1) kz w hs) (Kn.drop (k := 1) kws w hs) (Kn.drop (k := 1) kvs w hs) (by omega) (by omega)) ?_
 rintro ⟨ay1, ny1, cy1, Hy1, y1⟩ hr1
 dsimp only at hr1
 subst y1
 refine rKnow (fun w hs => (show OwnR maK 28 2 ay1 ny1 cy1 Hy1 (Math.sets z nws p) w from hs.at_ 0 rfl).1) (fun lenn2 => ?_)
 refine asS rfl rfl rfl ?_
 refine rNil ?_
 refine qSeq rfl ?_
 refine hSeq ?_
 refine hReg (sl 0 (sq 1 sz)) (by kernel_rfl) ?_
 refine bsl trv1 rfl rfl rfl (bsl28_0) (fun bkl3 hbkl3 => ?_)
 refine asS rfl rfl rfl ?_
 refine rNil ?_
 refine qSeq rfl ?_
 refine hSeq ?_
 refine hSeq ?_
 refine hReg (sq 0 sz) (by kernel_rfl) ?_
 refine asI rfl rfl rfl ?_
 refine rNil ?_
 refine qSeq rfl ?_
 refine hBlk ?_
 refine hPieces (fun _ h => Sep.litI h 0 [] rfl rfl rfl) ?_
 refine hLoop (α := Nat × Nat × Hd) (fun x => x.1 ≤ ny1 ∧ x.2.1 = x.1) (fun x => ny1 - x.1) (fun x => [OwnI 2 x.2.2.1 x.2.1 x.2.2.2 ((Math.sizes z ((Math.sets z nws p).take x.1))), OwnR maK 28 2 ay1 ny1 cy1 Hy1 (Math.sets z nws p), blk bkb1 43 [.slice az nz cz, .slice aws nws cws, .slice avs nvs cvs]]) (fun x => [(2, .pointer (some ⟨bkb1, 0, none⟩)), (5, .slice ay1 ny1 cy1), (6, .slice x.2.2.1 x.2.1 x.2.2.2), (7, .int .i64 (x.1 : Int))]) ((0, 0, ((some ⟨bkl3, 0, none⟩), 0))) ⟨Nat.zero_le _, rfl⟩ (fun _ h => h.pick [0, 0, 0]) ⟨rfl, rfl, rfl, rfl, trivial⟩ ?_
 rintro ⟨i, q, hd⟩ τ1 ⟨hi, hq⟩
 dsimp only at hi hq
 refine hRe [(2, .pointer (some ⟨bkb1, 0, none⟩)), (5, .slice ay1 ny1 cy1), (6, .slice hd.1 q hd.2), (7, .int .i64 (i : Int))] [OwnI 2 hd.1 q hd.2 ((Math.sizes z ((Math.sets z nws p).take i))), OwnR maK 28 2 ay1 ny1 cy1 Hy1 (Math.sets z nws p), blk bkb1 43 [.slice az nz cz, .slice aws nws cws, .slice avs nvs cvs]] rfl rfl ?_
 refine hSeq ?_
 refine hSeq ?_
 refine hReg (sq 0 (sq 1 (sq 2 (sq 3 sz)))) (by kernel_rfl) ?_
 refine mvI rfl rfl rfl ?_
 refine mvS rfl rfl rfl ?_
 refine lenS Try.runUnderlying41 rfl rfl rfl ?_
 refine lss rfl rfl rfl rfl ?_
 refine rNil ?_
 refine qSeq rfl ?_
 refine hIfD rfl (fun c1 => ?_) (fun c1 => ?_)
 ·
  replace c1 : (i : Int) < (ny1 : Int) := c1
  have hsa := Math.sets_at (z := z) (k := nws) (p := p) (i := i) (by omega)
  have hwd : Math.wide z ((Math.sets z nws p).getD i []) ≤ 4 := Math.wide_le hg hsa.2.1
  have hwq : Math.wide z ((Math.sets z nws p).getD i []) = (z.getD (((Math.sets z nws p).getD i []).getD 0 0).toNat dN).ch.length := rfl
  refine hSkip ?_
  refine qSeq rfl ?_
  refine hSeq ?_
  refine hBlk ?_
  refine hDraw (Ls := [OwnR maK 28 2 ay1 ny1 cy1 Hy1 (Math.sets z nws p), blk bkb1 43 [.slice az nz cz, .slice aws nws cws, .slice avs nvs cvs]]) (by kernel_rfl) (sq 0 (sq 1 (sq 2 (sq 3 (sq 4 (sq 5 (sq 6 (sq 7 (sq 8 (sq 9 (sq 10 (sq 11 (sq 12 (sq 13 (sl 14 (sl 15 (sq 16 sz))))))))))))))))) (by kernel_rfl) (.cons _ (.cons_cons _ (.cons_cons _ .slnil))) ?_
  refine mvS rfl rfl rfl ?_
  refine fld fl43_0 rfl rfl rfl ?_
  refine fld fl26_0 rfl rfl rfl ?_
  refine ldq Try.isAgg24 (cB 1 rfl rfl) rfl rfl rfl ?_
  refine mvS rfl rfl rfl ?_
  refine mvI rfl rfl rfl ?_
  refine ixRq (zn := i) ((Math.sets z nws p).getD i []) el41 ((Kn.at_ 0 rfl).imp fun _ h => OwnR.rd h maK.ok) (fun _ h => h.pick [1, 1]) rfl rfl rfl rfl (by omega) (by omega) rfl (nth [] (by omega)) ?_
  intro be2 oe2 e2
  refine ldq Try.isAgg28 (Kn.fld e2 0 rfl) rfl rfl rfl ?_
  refine ixIq (zn := 0) el28 ((Kn.imp ((Kn.at_ (φ := OwnR maK 28 2 ay1 ny1 cy1 Hy1 (Math.sets z nws p)) 0 rfl).imp fun _ h => OwnR.rd h maK.ok) fun _ h => h.kidM (nth [] (by omega)))) (fun _ h => h.pick [1, 1]) rfl rfl rfl rfl (by omega) (by omega) rfl ?_
  intro ae3 e3
  refine ldq Try.isAgg2 (e3) rfl rfl rfl ?_
  refine ixRq (zn := (((((Math.sets z nws p).getD i [])).getD 0 0)).toNat) (z.getD ((((((Math.sets z nws p).getD i [])).getD 0 0)).toNat) dN) el24 (Kn.drop (k := 2) kz) (fun _ h => h.pick [1, 1]) rfl rfl rfl rfl (by omega) (by omega) rfl (nth dN (by omega)) ?_
  intro be4 oe4 e4
  refine fld fl88_4 rfl rfl rfl ?_
  refine ldq Try.isAgg28 (Kn.fld e4 4 rfl) rfl rfl rfl ?_
  refine lenS Try.runUnderlying28 rfl rfl rfl ?_
  refine bsl (fun _ _ h => h.pick [2, 2]) rfl rfl rfl (bsl28_1 (.int .i64 _) rfl) (fun bkl4 hbkl4 => ?_)
  refine aplI (N := q) (x := ((((z.getD ((((((Math.sets z nws p).getD i [])).getD 0 0)).toNat) dN).ch).length : Nat) : Int)) 1 0 rfl rfl mk28 (fun _ _ h => h.pick [2, 2]) rfl rfl rfl rfl (by omega) ?_
  intro aq5 cq5
  refine asS rfl rfl rfl ?_
  refine rNil ?_
  refine qSeq rfl ?_
  refine hReg (sq 0 (sq 1 (sq 2 sz))) (by kernel_rfl) ?_
  refine mvI rfl rfl rfl ?_
  refine add rfl rfl rfl rfl (by omega) ?_
  refine asI rfl rfl rfl ?_
  refine rNil ?_
  rw [← Math.sizes_step (by omega)]
  exact qNext rfl ((i + 1, q + 1, (aq5, cq5))) (by dsimp only; omega) ⟨by dsimp only; omega, by dsimp only; omega⟩ ⟨rfl, rfl, rfl, rfl, trivial⟩ (fun _ h => h.pick [1, 1, 1])
 ·
  replace c1 : ¬ ((i : Int) < (ny1 : Int)) := c1
  refine hExit rfl ?_
  refine qSeq rfl ?_
  refine hSeq ?_
  refine hReg (sq 0 (sq 1 sz)) (by kernel_rfl) ?_
  refine mvS rfl rfl rfl ?_
  refine asS rfl rfl rfl ?_
  refine rNil ?_
  refine qSeq rfl ?_
  refine hRet ?_
  exact fun w hs => ⟨[.slice hd.1 q hd.2], ⟨rfl, trivial⟩, ⟨(hd.1, q, hd.2, (Math.sizes z ((Math.sets z nws p).take i))), rfl, by rw [List.take_of_length_le (by omega)], hs.pick [0]⟩⟩
theorem impl_isStrategy_c (az : Option Addr) (nz : Nat) (cz : Nat) (Hz : Nat → Hd) (z : List Nd) (aws : Option Addr) (nws : Nat) (cws : Nat) (Hws : Nat → Hd) (ws : List (List Int)) (avs : Option Addr) (nvs : Nat) (cvs : Nat) (Hvs : Nat → Hd) (vs : List (List Int)) (pl : Int) (aps : Option Addr) (nps : Nat) (cps : Nat) (Hps : Nat → Hd) (ps : List (List Int)) (w : World) (rz : RdR ndK az nz Hz z w) (rws : RdR maK aws nws Hws ws w) (rvs : RdR maK avs nvs Hvs vs w) (rps : RdR maK aps nps Hps ps w) (hg : Math.isGame z ws vs = true) :
  Calls Try.prog 122 #[.agg #[.slice az nz cz, .slice aws nws cws, .slice avs nvs cvs], .agg #[.int .i64 pl, .slice aps nps cps]] w (Ret fun v w' => v = .bool ((Math.partsB z (Math.sets z nws pl) ps)) ∧ Ext w w') := by
 have kz : Kn w none_ [] (RdR ndK az nz Hz z) := fun w' hs => rz.ext hs.upd
 have lz : z.length = nz := rz.1
 have mz : nz ≤ 9223372036854775807 := rz.2.1
 have kws : Kn w none_ [] (RdR maK aws nws Hws ws) := fun w' hs => rws.ext hs.upd
 have lws : ws.length = nws := rws.1
 have mws : nws ≤ 9223372036854775807 := rws.2.1
 have kvs : Kn w none_ [] (RdR maK avs nvs Hvs vs) := fun w' hs => rvs.ext hs.upd
 have lvs : vs.length = nvs := rvs.1
 have mvs : nvs ≤ 9223372036854775807 := rvs.2.1
 have kps : Kn w none_ [] (RdR maK aps nps Hps ps) := fun w' hs => rps.ext hs.upd
 have lps : ps.length = nps := rps.1
 have mps : nps ≤ 9223372036854775807 := rps.2.1
 have hG := Math.isGame_ok hg
 rw [lws] at hG
 have hT := Math.isTree_ok hG.1
 have hvl := Math.mat_len hG.2.2.2.1
 have hsl := Math.sets_len (z := z) (p := pl) (show nws ≤ 6 by omega)
 refine fn (M := none_) (rs := [.tmp 4]) Try.func122 rfl Try.ntmps122 rfl rfl (Sep.start _ _) ?_
 refine hSeq ?_
 refine hReg (sl 0 (sl 1 (sq 2 sz))) (by kernel_rfl) ?_
 refine box trv1 rfl rfl rfl rfl (fun bkb1 hbkb1 => ?_)
 refine box trv1 rfl rfl rfl rfl (fun bkb2 hbkb2 => ?_)
 refine asB rfl rfl rfl ?_
 refine rNil ?_
 refine qSeq rfl ?_
 refine hSeq ?_
 refine hReg (sl 0 (sq 1 (sl 2 (sl 3 (sq 4 sz))))) (by kernel_rfl) ?_
 refine ldAl Try.isAgg43 Try.sizeOf43 (cBs 1 rfl) trv rfl rfl rfl rfl ?_
 refine fld fl56_0 rfl rfl rfl ?_
 refine ldl Try.isAgg2 (cB 0 rfl rfl) trv rfl rfl rfl ?_
 refine callS Try.call116 trv1 rfl rfl (fun w hs => impl_infoSets_c _ nz cz _ _ _ nws cws _ _ _ nvs cvs _ _ _ w (Kn.drop (k := 2) kz w hs) (Kn.drop (k := 2) kws w hs) (Kn.drop (k := 2) kvs w hs) (by omega) (by omega)) ?_
 rintro ⟨ay1, ny1, cy1, Hy1, y1⟩ hr1
 dsimp only at hr1
 subst y1
 refine rKnow (fun w hs => (show OwnR maK 28 2 ay1 ny1 cy1 Hy1 (Math.sets z nws pl) w from hs.at_ 0 rfl).1) (fun lenn3 => ?_)
 refine asS rfl rfl rfl ?_
 refine rNil ?_
 refine qSeq rfl ?_
 refine hSeq ?_
 refine hSeq ?_
 refine hReg (sq 0 (sl 1 (sq 2 (sq 3 (sq 4 (sq 5 sz)))))) (by kernel_rfl) ?_
 refine fld fl56_1 rfl rfl rfl ?_
 refine ldl Try.isAgg41 (cB 1 rfl rfl) trv rfl rfl rfl ?_
 refine lenS Try.runUnderlying41 rfl rfl rfl ?_
 refine mvS rfl rfl rfl ?_
 refine lenS Try.runUnderlying41 rfl rfl rfl ?_
 refine neq rfl rfl rfl rfl ?_
 refine rNil ?_
 refine qSeq rfl ?_
 refine hIfD rfl (fun c1 => ?_) (fun c1 => ?_)
 ·
  replace c1 : (nps : Int) ≠ (ny1 : Int) := c1
  refine hSeq ?_
  refine hReg (sq 0 sz) (by kernel_rfl) ?_
  refine asB rfl rfl rfl ?_
  refine rNil ?_
  refine qSeq rfl ?_
  refine hRet ?_
  exact fun w hs => ⟨[.bool false], ⟨rfl, trivial⟩, ⟨bB (Math.parts_no0 (by omega)).symm, hs.upd⟩⟩
 ·
  replace c1 : ¬ ((nps : Int) ≠ (ny1 : Int)) := c1
  refine hSkip ?_
  refine qSeq rfl ?_
  refine hSeq ?_
  refine hSeq ?_
  refine hReg (sq 0 (sq 1 (sq 2 sz))) (by kernel_rfl) ?_
  refine mvS rfl rfl rfl ?_
  refine lenS Try.runUnderlying41 rfl rfl rfl ?_
  refine mvI rfl rfl rfl ?_
  refine rNil ?_
  refine qSeq rfl ?_
  refine hBlk ?_
  refine hLoop (α := Nat) (fun i => i ≤ ny1 ∧ ∀ j, j < i → Math.partB z ((Math.sets z nws pl).getD j []) (ps.getD j []) = true) (fun i => ny1 - i) (fun i => [OwnR maK 28 2 ay1 ny1 cy1 Hy1 (Math.sets z nws pl), blk bkb2 56 [.int .i64 pl, .slice aps nps cps], blk bkb1 43 [.slice az nz cz, .slice aws nws cws, .slice avs nvs cvs]]) (fun i => [(2, .pointer (some ⟨bkb1, 0, none⟩)), (3, .pointer (some ⟨bkb2, 0, none⟩)), (19, .slice ay1 ny1 cy1), (20, .int .i64 (ny1 : Int)), (21, .int .i64 (i : Int))]) 0 ⟨Nat.zero_le _, fun j hj => by omega⟩ (fun _ h => h.pick [0, 0, 0]) ⟨rfl, rfl, rfl, rfl, rfl, trivial⟩ ?_
  rintro i τ1 ⟨hi, hal⟩
  refine hSeq ?_
  refine hReg (sq 0 sz) (by kernel_rfl) ?_
  refine lss rfl rfl rfl rfl ?_
  refine rNil ?_
  refine qSeq rfl ?_
  refine hSeq ?_
  refine hIfD rfl (fun c2 => ?_) (fun c2 => ?_)
  ·
   replace c2 : (i : Int) < (ny1 : Int) := c2
   have hsa := Math.sets_at (z := z) (k := nws) (p := pl) (i := i) (by omega)
   have hwd : Math.wide z ((Math.sets z nws pl).getD i []) ≤ 4 := Math.wide_le hg hsa.2.1
   have hwq : Math.wide z ((Math.sets z nws pl).getD i []) = (z.getD (((Math.sets z nws pl).getD i []).getD 0 0).toNat dN).ch.length := rfl
   refine hSkip ?_
   refine qSeq rfl ?_
   refine hSeq ?_
   refine hBlk ?_
   refine hSeq ?_
   refine hReg (sq 0 (sq 1 (sl 2 (sq 3 (sq 4 sz))))) (by kernel_rfl) ?_
   refine mvI rfl rfl rfl ?_
   refine ixRl (zn := i) ((Math.sets z nws pl).getD i []) el41 ((Kn.at_ 0 rfl).imp fun _ h => OwnR.rd h maK.ok) rfl rfl rfl rfl (by omega) (by omega) rfl (nth [] (by omega)) ?_
   intro be2 oe2 e2
   refine ldl Try.isAgg28 (Kn.fld e2 0 rfl) trv rfl rfl rfl ?_
   refine asI rfl rfl rfl ?_
   refine asS rfl rfl rfl ?_
   refine rNil ?_
   refine qSeq rfl ?_
   refine hSeq ?_
   refine hReg (sq 0 (sl 1 (sq 2 (sq 3 (sl 4 (sq 5 sz)))))) (by kernel_rfl) ?_
   refine fld fl56_1 rfl rfl rfl ?_
   refine ldl Try.isAgg41 (cB 1 rfl rfl) trv rfl rfl rfl ?_
   refine mvI rfl rfl rfl ?_
   refine ixRl (zn := i) (ps.getD i []) el41 (Kn.drop (k := 3) kps) rfl rfl rfl rfl (by omega) (by omega) rfl (nth [] (by omega)) ?_
   intro be3 oe3 e3
   refine ldl Try.isAgg28 (Kn.fld e3 0 rfl) trv rfl rfl rfl ?_
   refine asS rfl rfl rfl ?_
   refine rNil ?_
   refine qSeq rfl ?_
   refine hSeq ?_
   refine hDraw (Ls := [OwnR maK 28 2 ay1 ny1 cy1 Hy1 (Math.sets z nws pl), blk bkb2 56 [.int .i64 pl, .slice aps nps cps], blk bkb1 43 [.slice az nz cz, .slice aws nws cws, .slice avs nvs cvs]]) (by kernel_rfl) (sq 0 (sq 1 (sq 2 (sq 3 (sq 4 (sq 5 (sq 6 (sq 7 (sq 8 (sq 9 (sq 10 (sq 11 (sq 12 (sq 13 (sq 14 (sl 15 (sq 16 (sq 17 (sq 18 (sq 19 (sl 20 (sq 21 (sq 22 sz))))))))))))))))))))))) (by kernel_rfl) (.cons_cons _ (.cons_cons _ (.cons_cons _ .slnil))) ?_
   refine mvS rfl rfl rfl ?_
   refine lenS Try.runUnderlying28 rfl rfl rfl ?_
   refine fld fl43_0 rfl rfl rfl ?_
   refine fld fl26_0 rfl rfl rfl ?_
   refine ldq Try.isAgg24 (cB 2 rfl rfl) rfl rfl rfl ?_
   refine mvS rfl rfl rfl ?_
   refine ixIq (zn := 0) el28 ((Kn.imp ((Kn.at_ (φ := OwnR maK 28 2 ay1 ny1 cy1 Hy1 (Math.sets z nws pl)) 0 rfl).imp fun _ h => OwnR.rd h maK.ok) fun _ h => h.kidM (nth [] (by omega)))) (fun _ h => h.pick [0, 0, 0]) rfl rfl rfl rfl (by omega) (by omega) rfl ?_
   intro ae4 e4
   refine ldq Try.isAgg2 (e4) rfl rfl rfl ?_
   refine ixRq (zn := (((((Math.sets z nws pl).getD i [])).getD 0 0)).toNat) (z.getD ((((((Math.sets z nws pl).getD i [])).getD 0 0)).toNat) dN) el24 (Kn.drop (k := 3) kz) (fun _ h => h.pick [0, 0, 0]) rfl rfl rfl rfl (by omega) (by omega) rfl (nth dN (by omega)) ?_
   intro be5 oe5 e5
   refine fld fl88_4 rfl rfl rfl ?_
   refine ldq Try.isAgg28 (Kn.fld e5 4 rfl) rfl rfl rfl ?_
   refine lenS Try.runUnderlying28 rfl rfl rfl ?_
   refine neq rfl rfl rfl rfl ?_
   refine mvB rfl rfl rfl ?_
   refine rBoolD (d := 44) rfl (fun g3 => ?_) (fun g3 => ?_)
   ·
    replace g3 : (((ps.getD i []).length : Nat) : Int) ≠ ((((z.getD ((((((Math.sets z nws pl).getD i [])).getD 0 0)).toNat) dN).ch).length : Nat) : Int) := g3
    refine rSkipQ rfl rfl ?_
    refine rSkipL (fun _ h => h.pick [0, 0, 0]) rfl rfl ?_
    refine rSkipQ rfl rfl ?_
    refine pickB rfl rfl rfl rfl ?_
    refine mvB rfl rfl rfl ?_
    refine rSkipQ rfl rfl ?_
    refine rSkipL (fun _ h => h.pick [0, 0, 0]) rfl rfl ?_
    refine rSkipQ rfl rfl ?_
    refine pickB rfl rfl rfl rfl ?_
    refine rNil ?_
    refine qSeq rfl ?_
    refine hIfT rfl ?_
    refine hSeq ?_
    refine hReg (sq 0 sz) (by kernel_rfl) ?_
    refine asB rfl rfl rfl ?_
    refine rNil ?_
    refine qSeq rfl ?_
    refine hRet ?_
    exact fun w hs => ⟨[.bool false], ⟨rfl, trivial⟩, ⟨bB (Math.parts_no (i := i) (by omega) (Math.part_no1 g3)).symm, hs.upd⟩⟩
   ·
    replace g3 : ¬ ((((ps.getD i []).length : Nat) : Int) ≠ ((((z.getD ((((((Math.sets z nws pl).getD i [])).getD 0 0)).toNat) dN).ch).length : Nat) : Int)) := g3
    refine mvS rfl rfl rfl ?_
    refine callP (v := .bool (((ps.getD i []).all (Math.inB (0 : Int) (60 : Int))))) Try.call98 (fun _ h => h.pick [0, 0, 0]) rfl rfl (fun w hs => impl_allWithin_c _ ((ps.getD i []).length) ((Hps i).2) _ _ _ w (Kn.drop (k := 3) ((Kn.imp kps fun _ h => h.kidM (nth [] (by omega)))) w hs)) ?_
    refine not rfl rfl rfl ?_
    refine pickB rfl rfl rfl rfl ?_
    refine mvB rfl rfl rfl ?_
    refine rBoolN (d := 49) rfl (fun g4 => ?_) (fun g4 => ?_)
    ·
     replace g4 : ((ps.getD i []).all (Math.inB (0 : Int) (60 : Int))) = false := g4
     refine rSkipQ rfl rfl ?_
     refine rSkipL (fun _ h => h.pick [0, 0, 0]) rfl rfl ?_
     refine rSkipQ rfl rfl ?_
     refine pickB rfl rfl rfl rfl ?_
     refine rNil ?_
     refine qSeq rfl ?_
     refine hIfT rfl ?_
     refine hSeq ?_
     refine hReg (sq 0 sz) (by kernel_rfl) ?_
     refine asB rfl rfl rfl ?_
     refine rNil ?_
     refine qSeq rfl ?_
     refine hRet ?_
     exact fun w hs => ⟨[.bool false], ⟨rfl, trivial⟩, ⟨bB (Math.parts_no (i := i) (by omega) (Math.part_no2 g4)).symm, hs.upd⟩⟩
    ·
     replace g4 : ((ps.getD i []).all (Math.inB (0 : Int) (60 : Int))) = true := g4
     have hb := Math.all60 g4
     refine mvS rfl rfl rfl ?_
     refine callP (v := .int .i64 ((ps.getD i []).sum)) Try.call161 (fun _ h => h.pick [0, 0, 0]) rfl rfl (fun w hs => impl_sumOf_c _ ((ps.getD i []).length) ((Hps i).2) _ w (Kn.drop (k := 3) ((Kn.imp kps fun _ h => h.kidM (nth [] (by omega)))) w hs) (by assumption) (by omega)) ?_
     refine neq rfl rfl rfl rfl ?_
     refine pickB rfl rfl rfl rfl ?_
     refine rNil ?_
     refine qSeq rfl ?_
     refine hIfD rfl (fun c5 => ?_) (fun c5 => ?_)
     ·
      replace c5 : (ps.getD i []).sum ≠ 60 := c5
      refine hSeq ?_
      refine hReg (sq 0 sz) (by kernel_rfl) ?_
      refine asB rfl rfl rfl ?_
      refine rNil ?_
      refine qSeq rfl ?_
      refine hRet ?_
      exact fun w hs => ⟨[.bool false], ⟨rfl, trivial⟩, ⟨bB (Math.parts_no (i := i) (by omega) (Math.part_no3 c5)).symm, hs.upd⟩⟩
     ·
      replace c5 : ¬ ((ps.getD i []).sum ≠ 60) := c5
      refine hSkip ?_
      refine qSeq rfl ?_
      refine hReg (sq 0 (sq 1 sz)) (by kernel_rfl) ?_
      refine add rfl rfl rfl rfl (by omega) ?_
      refine mvI rfl rfl rfl ?_
      refine rNil ?_
      exact qNext rfl (i + 1) (by omega) ⟨by omega, Math.upto hal (Math.part_yes (by omega) (by assumption) (by omega))⟩ ⟨rfl, rfl, rfl, rfl, rfl, trivial⟩ (fun _ h => h.pick [0, 0, 0])
  ·
   replace c2 : ¬ ((i : Int) < (ny1 : Int)) := c2
   refine hExit rfl ?_
   refine qSeq rfl ?_
   refine hSeq ?_
   refine hReg (sq 0 sz) (by kernel_rfl) ?_
   refine asB rfl rfl rfl ?_
   refine rNil ?_
   refine qSeq rfl ?_
   refine hRet ?_
   exact fun w hs => ⟨[.bool true], ⟨rfl, trivial⟩, ⟨bB (Math.parts_yes (by omega) fun j hj => hal j (by omega)).symm, hs.upd⟩⟩
theorem spec_IsStrategy_c (az : Option Addr) (nz : Nat) (cz : Nat) (Hz : Nat → Hd) (z : List Nd) (aws : Option Addr) (nws : Nat) (cws : Nat) (Hws : Nat → Hd) (ws : List (List Int)) (avs : Option Addr) (nvs : Nat) (cvs : Nat) (Hvs : Nat → Hd) (vs : List (List Int)) (pl : Int) (aps : Option Addr) (nps : Nat) (cps : Nat) (Hps : Nat → Hd) (ps : List (List Int)) (w : World) (rz : RdR ndK az nz Hz z w) (rws : RdR maK aws nws Hws ws w) (rvs : RdR maK avs nvs Hvs vs w) (rps : RdR maK aps nps Hps ps w) :
  Calls Try.prog 139 #[.agg #[.slice az nz cz, .slice aws nws cws, .slice avs nvs cvs], .agg #[.int .i64 pl, .slice aps nps cps]] w (Ret fun v w' => v = .bool (Math.isStrat z ws vs pl ps) ∧ Ext w w') := by
 have kz : Kn w none_ [] (RdR ndK az nz Hz z) := fun w' hs => rz.ext hs.upd
 have lz : z.length = nz := rz.1
 have mz : nz ≤ 9223372036854775807 := rz.2.1
 have kws : Kn w none_ [] (RdR maK aws nws Hws ws) := fun w' hs => rws.ext hs.upd
 have lws : ws.length = nws := rws.1
 have mws : nws ≤ 9223372036854775807 := rws.2.1
 have kvs : Kn w none_ [] (RdR maK avs nvs Hvs vs) := fun w' hs => rvs.ext hs.upd
 have lvs : vs.length = nvs := rvs.1
 have mvs : nvs ≤ 9223372036854775807 := rvs.2.1
 have kps : Kn w none_ [] (RdR maK aps nps Hps ps) := fun w' hs => rps.ext hs.upd
 have lps : ps.length = nps := rps.1
 have mps : nps ≤ 9223372036854775807 := rps.2.1
 refine fn (M := none_) (rs := [.tmp 4]) Try.func139 rfl Try.ntmps139 rfl rfl (Sep.start _ _) ?_
 refine hSeq ?_
 refine hReg (sl 0 (sl 1 (sq 2 sz))) (by kernel_rfl) ?_
 refine box trv1 rfl rfl rfl rfl (fun bkb1 hbkb1 => ?_)
 refine box trv1 rfl rfl rfl rfl (fun bkb2 hbkb2 => ?_)
 refine asB rfl rfl rfl ?_
 refine rNil ?_
 refine qSeq rfl ?_
 refine hSeq ?_
 refine hSeq ?_
 refine hReg (sl 0 (sl 1 (sq 2 (sq 3 (sq 4 (sl 5 (sl 6 (sq 7 (sq 8 sz))))))))) (by kernel_rfl) ?_
 refine ldAl Try.isAgg43 Try.sizeOf43 (cBs 1 rfl) trv rfl rfl rfl rfl ?_
 refine callP (v := .bool (Math.isGame z ws vs)) Try.call108 trv rfl rfl (fun w hs => spec_IsGame_c _ nz cz _ _ _ nws cws _ _ _ nvs cvs _ _ w (Kn.drop (k := 2) kz w hs) (Kn.drop (k := 2) kws w hs) (Kn.drop (k := 2) kvs w hs)) ?_
 refine not rfl rfl rfl ?_
 refine mvB rfl rfl rfl ?_
 refine rBoolN (d := 11) rfl (fun g1 => ?_) (fun g1 => ?_)
 ·
  replace g1 : (Math.isGame z ws vs) = false := g1
  refine rSkipQ rfl rfl ?_
  refine rSkipL trv rfl rfl ?_
  refine rSkipL trv rfl rfl ?_
  refine rSkipQ rfl rfl ?_
  refine pickB rfl rfl rfl rfl ?_
  refine rNil ?_
  refine qSeq rfl ?_
  refine hIfT rfl ?_
  refine hSeq ?_
  refine hReg (sq 0 sz) (by kernel_rfl) ?_
  refine asB rfl rfl rfl ?_
  refine rNil ?_
  refine qSeq rfl ?_
  refine hRet ?_
  exact fun w hs => ⟨[.bool false], ⟨rfl, trivial⟩, ⟨bB (Math.strat_no1 g1).symm, hs.upd⟩⟩
 ·
  replace g1 : (Math.isGame z ws vs) = true := g1
  refine fld fl56_0 rfl rfl rfl ?_
  refine ldl Try.isAgg2 (cB 0 rfl rfl) trv rfl rfl rfl ?_
  refine callP (v := .bool ((Math.inB (0 : Int) (1 : Int) pl))) Try.call97 trv rfl rfl (fun w hs => spec_l01In_c _ _ _ w ) ?_
  refine not rfl rfl rfl ?_
  refine pickB rfl rfl rfl rfl ?_
  refine rNil ?_
  refine qSeq rfl ?_
  refine hIfN rfl (fun c2 => ?_) (fun c2 => ?_)
  ·
   replace c2 : (Math.inB (0 : Int) (1 : Int) pl) = false := c2
   replace c2 : ¬ (0 ≤ pl ∧ pl ≤ 1) := of_decide_eq_false c2
   refine hSeq ?_
   refine hReg (sq 0 sz) (by kernel_rfl) ?_
   refine asB rfl rfl rfl ?_
   refine rNil ?_
   refine qSeq rfl ?_
   refine hRet ?_
   exact fun w hs => ⟨[.bool false], ⟨rfl, trivial⟩, ⟨bB (Math.strat_no2 c2).symm, hs.upd⟩⟩
  ·
   replace c2 : (Math.inB (0 : Int) (1 : Int) pl) = true := c2
   have hpl := of_decide_eq_true (show decide (0 ≤ pl ∧ pl ≤ 1) = true from c2)
   have hG := Math.isGame_ok g1
   rw [lws] at hG
   have hT := Math.isTree_ok hG.1
   have hvl := Math.mat_len hG.2.2.2.1
   have hsl := Math.sets_len (z := z) (p := pl) (show nws ≤ 6 by omega)
   refine hSkip ?_
   refine qSeq rfl ?_
   refine hSeq ?_
   refine hReg (sl 0 (sq 1 (sl 2 (sl 3 (sq 4 sz))))) (by kernel_rfl) ?_
   refine ldAl Try.isAgg43 Try.sizeOf43 (cBs 1 rfl) trv rfl rfl rfl rfl ?_
   refine fld fl56_0 rfl rfl rfl ?_
   refine ldl Try.isAgg2 (cB 0 rfl rfl) trv rfl rfl rfl ?_
   refine callS Try.call117 trv1 rfl rfl (fun w hs => spec_l21Sets_c _ nz cz _ _ _ nws cws _ _ _ nvs cvs _ _ _ w (Kn.drop (k := 2) kz w hs) (Kn.drop (k := 2) kws w hs) (Kn.drop (k := 2) kvs w hs) (by omega) (by omega)) ?_
   rintro ⟨ay1, ny1, cy1, Hy1, y1⟩ hr1
   dsimp only at hr1
   subst y1
   refine rKnow (fun w hs => (show OwnR maK 28 2 ay1 ny1 cy1 Hy1 (Math.sets z nws pl) w from hs.at_ 0 rfl).1) (fun lenn3 => ?_)
   refine asS rfl rfl rfl ?_
   refine rNil ?_
   refine qSeq rfl ?_
   refine hSeq ?_
   refine hSeq ?_
   refine hReg (sq 0 (sl 1 (sq 2 (sq 3 (sq 4 (sq 5 sz)))))) (by kernel_rfl) ?_
   refine fld fl56_1 rfl rfl rfl ?_
   refine ldl Try.isAgg41 (cB 1 rfl rfl) trv rfl rfl rfl ?_
   refine lenS Try.runUnderlying41 rfl rfl rfl ?_
   refine mvS rfl rfl rfl ?_
   refine lenS Try.runUnderlying41 rfl rfl rfl ?_
   refine neq rfl rfl rfl rfl ?_
   refine rNil ?_
   refine qSeq rfl ?_
   refine hIfD rfl (fun c3 => ?_) (fun c3 => ?_)
   ·
    replace c3 : (nps : Int) ≠ (ny1 : Int) := c3
    refine hSeq ?_
    refine hReg (sq 0 sz) (by kernel_rfl) ?_
    refine asB rfl rfl rfl ?_
    refine rNil ?_
    refine qSeq rfl ?_
    refine hRet ?_
    exact fun w hs => ⟨[.bool false], ⟨rfl, trivial⟩, ⟨bB (((Math.parts_no0 (by omega) : Math.partsB z (Math.sets z nws pl) ps = false)).symm.trans (Math.strat_in lws g1 (by omega)).symm), hs.upd⟩⟩
   ·
    replace c3 : ¬ ((nps : Int) ≠ (ny1 : Int)) := c3
    refine hSkip ?_
    refine qSeq rfl ?_
    refine hSeq ?_
    refine hSeq ?_
    refine hReg (sq 0 sz) (by kernel_rfl) ?_
    refine asI rfl rfl rfl ?_
    refine rNil ?_
    refine qSeq rfl ?_
    refine hBlk ?_
    refine hLoop (α := Nat) (fun i => i ≤ ny1 ∧ ∀ j, j < i → Math.partB z ((Math.sets z nws pl).getD j []) (ps.getD j []) = true) (fun i => ny1 - i) (fun i => [OwnR maK 28 2 ay1 ny1 cy1 Hy1 (Math.sets z nws pl), blk bkb2 56 [.int .i64 pl, .slice aps nps cps], blk bkb1 43 [.slice az nz cz, .slice aws nws cws, .slice avs nvs cvs]]) (fun i => [(2, .pointer (some ⟨bkb1, 0, none⟩)), (3, .pointer (some ⟨bkb2, 0, none⟩)), (5, .slice ay1 ny1 cy1), (6, .int .i64 (i : Int))]) 0 ⟨Nat.zero_le _, fun j hj => by omega⟩ (fun _ h => h.pick [0, 0, 0]) ⟨rfl, rfl, rfl, rfl, trivial⟩ ?_
    rintro i τ1 ⟨hi, hal⟩
    refine hSeq ?_
    refine hSeq ?_
    refine hReg (sq 0 (sq 1 (sq 2 (sq 3 sz)))) (by kernel_rfl) ?_
    refine mvI rfl rfl rfl ?_
    refine mvS rfl rfl rfl ?_
    refine lenS Try.runUnderlying41 rfl rfl rfl ?_
    refine lss rfl rfl rfl rfl ?_
    refine rNil ?_
    refine qSeq rfl ?_
    refine hIfD rfl (fun c4 => ?_) (fun c4 => ?_)
    ·
     replace c4 : (i : Int) < (ny1 : Int) := c4
     have hsa := Math.sets_at (z := z) (k := nws) (p := pl) (i := i) (by omega)
     have hwd : Math.wide z ((Math.sets z nws pl).getD i []) ≤ 4 := Math.wide_le g1 hsa.2.1
     have hwq : Math.wide z ((Math.sets z nws pl).getD i []) = (z.getD (((Math.sets z nws pl).getD i []).getD 0 0).toNat dN).ch.length := rfl
     refine hSkip ?_
     refine qSeq rfl ?_
     refine hSeq ?_
     refine hBlk ?_
     refine hSeq ?_
     refine hSeq ?_
     refine hDraw (Ls := [OwnR maK 28 2 ay1 ny1 cy1 Hy1 (Math.sets z nws pl), blk bkb2 56 [.int .i64 pl, .slice aps nps cps], blk bkb1 43 [.slice az nz cz, .slice aws nws cws, .slice avs nvs cvs]]) (by kernel_rfl) (sq 0 (sq 1 (sq 2 (sq 3 (sq 4 (sq 5 (sq 6 (sq 7 (sq 8 (sq 9 (sq 10 (sq 11 (sq 12 (sq 13 (sq 14 (sq 15 (sq 16 (sq 17 (sq 18 (sq 19 sz)))))))))))))))))))) (by kernel_rfl) (.cons_cons _ (.cons_cons _ (.cons_cons _ .slnil))) ?_
     refine fld fl56_1 rfl rfl rfl ?_
     refine ldq Try.isAgg41 (cB 1 rfl rfl) rfl rfl rfl ?_
     refine mvI rfl rfl rfl ?_
     refine ixRq (zn := i) (ps.getD i []) el41 (Kn.drop (k := 3) kps) (fun _ h => h.pick [0, 0, 0]) rfl rfl rfl rfl (by omega) (by omega) rfl (nth [] (by omega)) ?_
     intro be2 oe2 e2
     refine ldq Try.isAgg28 (Kn.fld e2 0 rfl) rfl rfl rfl ?_
     refine lenS Try.runUnderlying28 rfl rfl rfl ?_
     refine fld fl43_0 rfl rfl rfl ?_
     refine fld fl26_0 rfl rfl rfl ?_
     refine ldq Try.isAgg24 (cB 2 rfl rfl) rfl rfl rfl ?_
     refine mvS rfl rfl rfl ?_
     refine mvI rfl rfl rfl ?_
     refine ixRq (zn := i) ((Math.sets z nws pl).getD i []) el41 ((Kn.at_ 0 rfl).imp fun _ h => OwnR.rd h maK.ok) (fun _ h => h.pick [0, 0, 0]) rfl rfl rfl rfl (by omega) (by omega) rfl (nth [] (by omega)) ?_
     intro be3 oe3 e3
     refine ldq Try.isAgg28 (Kn.fld e3 0 rfl) rfl rfl rfl ?_
     refine ixIq (zn := 0) el28 ((Kn.imp ((Kn.at_ (φ := OwnR maK 28 2 ay1 ny1 cy1 Hy1 (Math.sets z nws pl)) 0 rfl).imp fun _ h => OwnR.rd h maK.ok) fun _ h => h.kidM (nth [] (by omega)))) (fun _ h => h.pick [0, 0, 0]) rfl rfl rfl rfl (by omega) (by omega) rfl ?_
     intro ae4 e4
     refine ldq Try.isAgg2 (e4) rfl rfl rfl ?_
     refine ixRq (zn := (((((Math.sets z nws pl).getD i [])).getD 0 0)).toNat) (z.getD ((((((Math.sets z nws pl).getD i [])).getD 0 0)).toNat) dN) el24 (Kn.drop (k := 3) kz) (fun _ h => h.pick [0, 0, 0]) rfl rfl rfl rfl (by omega) (by omega) rfl (nth dN (by omega)) ?_
     intro be5 oe5 e5
     refine fld fl88_4 rfl rfl rfl ?_
     refine ldq Try.isAgg28 (Kn.fld e5 4 rfl) rfl rfl rfl ?_
     refine lenS Try.runUnderlying28 rfl rfl rfl ?_
     refine neq rfl rfl rfl rfl ?_
     refine rNil ?_
     refine qSeq rfl ?_
     refine hIfD rfl (fun c5 => ?_) (fun c5 => ?_)
     ·
      replace c5 : (((ps.getD i []).length : Nat) : Int) ≠ ((((z.getD ((((((Math.sets z nws pl).getD i [])).getD 0 0)).toNat) dN).ch).length : Nat) : Int) := c5
      refine hSeq ?_
      refine hReg (sq 0 sz) (by kernel_rfl) ?_
      refine asB rfl rfl rfl ?_
      refine rNil ?_
      refine qSeq rfl ?_
      refine hRet ?_
      exact fun w hs => ⟨[.bool false], ⟨rfl, trivial⟩, ⟨bB (((Math.parts_no (i := i) (by omega) (Math.part_no1 c5) : Math.partsB z (Math.sets z nws pl) ps = false)).symm.trans (Math.strat_in lws g1 (by omega)).symm), hs.upd⟩⟩
     ·
      replace c5 : ¬ ((((ps.getD i []).length : Nat) : Int) ≠ ((((z.getD ((((((Math.sets z nws pl).getD i [])).getD 0 0)).toNat) dN).ch).length : Nat) : Int)) := c5
      refine hSkip ?_
      refine qSeq rfl ?_
      refine hSeq ?_
      refine hSeq ?_
      refine hReg (sq 0 sz) (by kernel_rfl) ?_
      refine asI rfl rfl rfl ?_
      refine rNil ?_
      refine qSeq rfl ?_
      refine hBlk ?_
      refine hLoop (α := Nat) (fun j => j ≤ (ps.getD i []).length ∧ ∀ q, q < j → Math.inB 0 60 ((ps.getD i []).getD q 0) = true) (fun j => (ps.getD i []).length - j) (fun j => [OwnR maK 28 2 ay1 ny1 cy1 Hy1 (Math.sets z nws pl), blk bkb2 56 [.int .i64 pl, .slice aps nps cps], blk bkb1 43 [.slice az nz cz, .slice aws nws cws, .slice avs nvs cvs]]) (fun j => [(2, .pointer (some ⟨bkb1, 0, none⟩)), (3, .pointer (some ⟨bkb2, 0, none⟩)), (5, .slice ay1 ny1 cy1), (6, .int .i64 (i : Int)), (7, .int .i64 (j : Int))]) 0 ⟨Nat.zero_le _, fun q hq => by omega⟩ (fun _ h => h.pick [0, 0, 0]) ⟨rfl, rfl, rfl, rfl, rfl, trivial⟩ ?_
      rintro j τ2 ⟨hj, hin⟩
      refine hSeq ?_
      refine hSeq ?_
      refine hReg (sq 0 (sq 1 (sl 2 (sq 3 (sq 4 (sl 5 (sq 6 (sq 7 sz)))))))) (by kernel_rfl) ?_
      refine mvI rfl rfl rfl ?_
      refine fld fl56_1 rfl rfl rfl ?_
      refine ldl Try.isAgg41 (cB 1 rfl rfl) trv rfl rfl rfl ?_
      refine mvI rfl rfl rfl ?_
      refine ixRl (zn := i) (ps.getD i []) el41 (Kn.drop (k := 3) kps) rfl rfl rfl rfl (by omega) (by omega) rfl (nth [] (by omega)) ?_
      intro be6 oe6 e6
      refine ldl Try.isAgg28 (Kn.fld e6 0 rfl) trv rfl rfl rfl ?_
      refine lenS Try.runUnderlying28 rfl rfl rfl ?_
      refine lss rfl rfl rfl rfl ?_
      refine rNil ?_
      refine qSeq rfl ?_
      refine hIfD rfl (fun c6 => ?_) (fun c6 => ?_)
      ·
       replace c6 : (j : Int) < (((ps.getD i []).length : Nat) : Int) := c6
       refine hSkip ?_
       refine qSeq rfl ?_
       refine hSeq ?_
       refine hBlk ?_
       refine hSeq ?_
       refine hReg (sq 0 (sl 1 (sq 2 (sq 3 (sl 4 (sq 5 (sq 6 (sl 7 (sl 8 (sq 9 sz)))))))))) (by kernel_rfl) ?_
       refine fld fl56_1 rfl rfl rfl ?_
       refine ldl Try.isAgg41 (cB 1 rfl rfl) trv rfl rfl rfl ?_
       refine mvI rfl rfl rfl ?_
       refine ixRl (zn := i) (ps.getD i []) el41 (Kn.drop (k := 3) kps) rfl rfl rfl rfl (by omega) (by omega) rfl (nth [] (by omega)) ?_
       intro be7 oe7 e7
       refine ldl Try.isAgg28 (Kn.fld e7 0 rfl) trv rfl rfl rfl ?_
       refine mvI rfl rfl rfl ?_
       refine ixIl (zn := j) el28 (Kn.drop (k := 3) ((Kn.imp kps fun _ h => h.kidM (nth [] (by omega))))) rfl rfl rfl rfl (by omega) (by omega) rfl ?_
       intro ae8 e8
       refine ldl Try.isAgg2 (e8) trv rfl rfl rfl ?_
       refine callP (v := .bool ((Math.inB (0 : Int) (60 : Int) (((ps.getD i []).getD j 0))))) Try.call97 trv rfl rfl (fun w hs => spec_l01In_c _ _ _ w ) ?_
       refine not rfl rfl rfl ?_
       refine rNil ?_
       refine qSeq rfl ?_
       refine hIfN rfl (fun c7 => ?_) (fun c7 => ?_)
       ·
        replace c7 : (Math.inB (0 : Int) (60 : Int) (((ps.getD i []).getD j 0))) = false := c7
        refine hSeq ?_
        refine hReg (sq 0 sz) (by kernel_rfl) ?_
        refine asB rfl rfl rfl ?_
        refine rNil ?_
        refine qSeq rfl ?_
        refine hRet ?_
        exact fun w hs => ⟨[.bool false], ⟨rfl, trivial⟩, ⟨bB (((Math.parts_no (i := i) (by omega) (Math.part_no2 (Math.all_no 0 (i := j) (by omega) c7)) : Math.partsB z (Math.sets z nws pl) ps = false)).symm.trans (Math.strat_in lws g1 (by omega)).symm), hs.upd⟩⟩
       ·
        replace c7 : (Math.inB (0 : Int) (60 : Int) (((ps.getD i []).getD j 0))) = true := c7
        refine hSkip ?_
        refine qSeq rfl ?_
        refine hReg (sq 0 (sq 1 (sq 2 sz))) (by kernel_rfl) ?_
        refine mvI rfl rfl rfl ?_
        refine add rfl rfl rfl rfl (by omega) ?_
        refine asI rfl rfl rfl ?_
        refine rNil ?_
        exact qNext rfl (j + 1) (by omega) ⟨by omega, Math.upto hin (by assumption)⟩ ⟨rfl, rfl, rfl, rfl, rfl, trivial⟩ (fun _ h => h.pick [0, 0, 0])
      ·
       replace c6 : ¬ ((j : Int) < (((ps.getD i []).length : Nat) : Int)) := c6
       have hb2 : (ps.getD i []).all (Math.inB 0 60) = true := (Math.all_getD 0).2 fun q hq => hin q (by omega)
       have hb := Math.all60 hb2
       refine hExit rfl ?_
       refine qSeq rfl ?_
       refine hSeq ?_
       refine hReg (sq 0 (sl 1 (sq 2 (sq 3 (sl 4 (sl 5 (sq 6 sz))))))) (by kernel_rfl) ?_
       refine fld fl56_1 rfl rfl rfl ?_
       refine ldl Try.isAgg41 (cB 1 rfl rfl) trv rfl rfl rfl ?_
       refine mvI rfl rfl rfl ?_
       refine ixRl (zn := i) (ps.getD i []) el41 (Kn.drop (k := 3) kps) rfl rfl rfl rfl (by omega) (by omega) rfl (nth [] (by omega)) ?_
       intro be9 oe9 e9
       refine ldl Try.isAgg28 (Kn.fld e9 0 rfl) trv rfl rfl rfl ?_
       refine callP (v := .int .i64 ((ps.getD i []).sum)) Try.call125 trv rfl rfl (fun w hs => spec_l01Sum_c _ ((ps.getD i []).length) ((Hps i).2) _ w (Kn.drop (k := 3) ((Kn.imp kps fun _ h => h.kidM (nth [] (by omega)))) w hs) (by assumption) (by omega)) ?_
       refine neq rfl rfl rfl rfl ?_
       refine rNil ?_
       refine qSeq rfl ?_
       refine hIfD rfl (fun c8 => ?_) (fun c8 => ?_)
       ·
        replace c8 : (ps.getD i []).sum ≠ 60 := c8
        refine hSeq ?_
        refine hReg (sq 0 sz) (by kernel_rfl) ?_
        refine asB rfl rfl rfl ?_
        refine rNil ?_
        refine qSeq rfl ?_
        refine hRet ?_
        exact fun w hs => ⟨[.bool false], ⟨rfl, trivial⟩, ⟨bB (((Math.parts_no (i := i) (by omega) (Math.part_no3 c8) : Math.partsB z (Math.sets z nws pl) ps = false)).symm.trans (Math.strat_in lws g1 (by omega)).symm), hs.upd⟩⟩
       ·
        replace c8 : ¬ ((ps.getD i []).sum ≠ 60) := c8
        refine hSkip ?_
        refine qSeq rfl ?_
        refine hReg (sq 0 (sq 1 (sq 2 sz))) (by kernel_rfl) ?_
        refine mvI rfl rfl rfl ?_
        refine add rfl rfl rfl rfl (by omega) ?_
        refine asI rfl rfl rfl ?_
        refine rNil ?_
        exact qNext rfl (i + 1) (by omega) ⟨by omega, Math.upto hal (Math.part_yes (by omega) hb2 (by omega))⟩ ⟨rfl, rfl, rfl, rfl, trivial⟩ (fun _ h => h.pick [0, 0, 0])
    ·
     replace c4 : ¬ ((i : Int) < (ny1 : Int)) := c4
     refine hExit rfl ?_
     refine qSeq rfl ?_
     refine hSeq ?_
     refine hReg (sq 0 sz) (by kernel_rfl) ?_
     refine asB rfl rfl rfl ?_
     refine rNil ?_
     refine qSeq rfl ?_
     refine hRet ?_
     exact fun w hs => ⟨[.bool true], ⟨rfl, trivial⟩, ⟨bB (((Math.parts_yes (by omega) (fun j hj => hal j (by omega)) : Math.partsB z (Math.sets z nws pl) ps = true)).symm.trans (Math.strat_in lws g1 (by omega)).symm), hs.upd⟩⟩
end Go.Proofs.Ytjengglpbdgmnaa
/- Contracts of copies of trees. Their conditions stand in each. -/
namespace Go.Proofs.Ytjengglpbdgmnaa
open Go Go.RowKit V
set_option linter.unusedVariables false
set_option linter.unusedSimpArgs false
set_option maxRecDepth 100000
theorem bld43_0 (v0_0 : Value) (h0_0 : v0_0.cells = #[v0_0]) : ∀ w, (Instr.build 43 ([(0, .agg #[v0_0])] : List (Nat × Value)).toArray).run Try.prog w = .ok (.agg ([v0_0, .slice none 0 0, .slice none 0 0] : List Value).toArray) w := by
 intro w; simp [Instr.build, Instr.fill, Try.zeroValue43, Try.runUnderlying43, aggCells, Try.sizeOf26, Try.sizeOf41]
theorem bld43_0_1_2 (v0_0 v1 v2 : Value) (h0_0 : v0_0.cells = #[v0_0]) (h1 : v1.cells = #[v1]) (h2 : v2.cells = #[v2]) : ∀ w, (Instr.build 43 ([(0, .agg #[v0_0]), (1, v1), (2, v2)] : List (Nat × Value)).toArray).run Try.prog w = .ok (.agg ([v0_0, v1, v2] : List Value).toArray) w := by
 intro w; simp [Instr.build, Instr.fill, Try.zeroValue43, Try.runUnderlying43, aggCells, Try.sizeOf26, Try.sizeOf41, h1, h2]
theorem slices_Clone_int64_int64_c (az : Option Addr) (nz : Nat) (cz : Nat) (z : List Int) (w : World) (rz : RdI az nz z w) (hl : nz ≤ 1000000) :
  Calls Try.prog 182 #[.slice az nz cz] w (Ret fun v w' => ∃ x : Option Addr × Nat × Nat × List Int, v = .slice x.1 x.2.1 x.2.2.1 ∧ (x.2.2.2 = z) ∧ Sep w none_ [OwnI 2 x.1 x.2.1 x.2.2.1 x.2.2.2] w') := by
 have kz : Kn w none_ [] (RdI az nz z) := fun w' hs => rz.ext hs.upd
 have lz : z.length = nz := rz.1
 have mz : nz ≤ 9223372036854775807 := rz.2.1
 refine fn (M := none_) (rs := [.tmp 2]) Try.func182 rfl Try.ntmps182 rfl rfl (Sep.start _ _) ?_
 refine hSeq ?_
 refine hReg (sq 0 sz) (by kernel_rfl) ?_
 refine asS rfl rfl rfl ?_
 refine rNil ?_
 refine qSeq rfl ?_
 refine hSeq ?_
 refine hSeq ?_
 refine hReg (sq 0 (sq 1 sz)) (by kernel_rfl) ?_
 refine mvS rfl rfl rfl ?_
 refine eqNil Try.underlying28 rfl rfl rfl rfl ?_
 refine rNil ?_
 refine qSeq rfl ?_
 refine hIf rfl (fun c1 => ?_) (fun c1 => ?_)
 ·
  replace c1 : az.isNone = true := c1
  have hz0 := RdI.none rz c1
  refine hSeq ?_
  refine hReg (sq 0 sz) (by kernel_rfl) ?_
  refine asS rfl rfl rfl ?_
  refine rNil ?_
  refine qSeq rfl ?_
  refine hRet ?_
  refine knP (fun _ h => Sep.nilI 2 h) ?_
  exact fun w hs => ⟨[.slice none 0 0], ⟨rfl, trivial⟩, ⟨(none, 0, 0, []), rfl, by first | exact hz0.symm | simp, hs.pick [0]⟩⟩
 ·
  replace c1 : az.isNone = false := c1
  refine hSkip ?_
  refine qSeq rfl ?_
  refine hSeq ?_
  refine hReg (sl 0 (sq 1 (sl 2 (sq 3 sz)))) (by kernel_rfl) ?_
  refine bsl trv1 rfl rfl rfl (bsl28_0) (fun bkl2 hbkl2 => ?_)
  refine mvS rfl rfl rfl ?_
  refine rPieces (fun _ h => Sep.litI h 0 [] rfl rfl rfl) ?_
  refine aplL (N := 0) (ys := z) 0 rfl (Kn.drop (k := 1) kz) mk28 trv1 rfl rfl rfl rfl (by omega) ?_
  intro aq1 cq1
  refine asS rfl rfl rfl ?_
  refine rNil ?_
  refine qSeq rfl ?_
  refine hRet ?_
  exact fun w hs => ⟨[.slice aq1 (0 + nz) cq1], ⟨rfl, trivial⟩, ⟨(aq1, (0 + nz), cq1, ([] ++ z)), rfl, by simp, hs.pick [0]⟩⟩
theorem spec_l01Own_c (az : Option Addr) (nz : Nat) (cz : Nat) (z : List Int) (w : World) (rz : RdI az nz z w) (hl : nz ≤ 1000000) :
  Calls Try.prog 160 #[.slice az nz cz] w (Ret fun v w' => ∃ x : Option Addr × Nat × Nat × List Int, v = .slice x.1 x.2.1 x.2.2.1 ∧ (x.2.2.2 = z) ∧ Sep w none_ [OwnI 2 x.1 x.2.1 x.2.2.1 x.2.2.2] w') := by
 have kz : Kn w none_ [] (RdI az nz z) := fun w' hs => rz.ext hs.upd
 have lz : z.length = nz := rz.1
 have mz : nz ≤ 9223372036854775807 := rz.2.1
 refine fn (M := none_) (rs := [.tmp 2]) Try.func160 rfl Try.ntmps160 rfl rfl (Sep.start _ _) ?_
 refine hSeq ?_
 refine hReg (sq 0 sz) (by kernel_rfl) ?_
 refine asS rfl rfl rfl ?_
 refine rNil ?_
 refine qSeq rfl ?_
 refine hSeq ?_
 refine hReg (sl 0 (sq 1 (sl 2 (sq 3 sz)))) (by kernel_rfl) ?_
 refine bsl trv1 rfl rfl rfl (bsl28_0) (fun bkl1 hbkl1 => ?_)
 refine mvS rfl rfl rfl ?_
 refine rPieces (fun _ h => Sep.litI h 0 [] rfl rfl rfl) ?_
 refine aplL (N := 0) (ys := z) 0 rfl (Kn.drop (k := 1) kz) mk28 trv1 rfl rfl rfl rfl (by omega) ?_
 intro aq1 cq1
 refine asS rfl rfl rfl ?_
 refine rNil ?_
 refine qSeq rfl ?_
 refine hRet ?_
 exact fun w hs => ⟨[.slice aq1 (0 + nz) cq1], ⟨rfl, trivial⟩, ⟨(aq1, (0 + nz), cq1, ([] ++ z)), rfl, by simp, hs.pick [0]⟩⟩
theorem impl_cloneTree_c (az : Option Addr) (nz : Nat) (cz : Nat) (Hz : Nat → Hd) (z : List Nd) (w : World) (rz : RdR ndK az nz Hz z w) (ht : Math.isTree z = true) :
  Calls Try.prog 157 #[.agg #[.slice az nz cz]] w (Ret fun v w' => ∃ x : Option Addr × Nat × Nat × (Nat → Hd) × List Nd, v = .agg #[.slice x.1 x.2.1 x.2.2.1] ∧ (x.2.2.2.2 = z) ∧ Sep w none_ [OwnR ndK 88 2 x.1 x.2.1 x.2.2.1 x.2.2.2.1 x.2.2.2.2] w') := by
 have kz : Kn w none_ [] (RdR ndK az nz Hz z) := fun w' hs => rz.ext hs.upd
 have lz : z.length = nz := rz.1
 have mz : nz ≤ 9223372036854775807 := rz.2.1
 have hT := Math.isTree_ok ht
 have hn := hT.1
 refine fn (M := none_) (rs := [.cell 2 26]) Try.func157 rfl Try.ntmps157 rfl rfl (Sep.start _ _) ?_
 refine hSeq ?_
 refine hReg (sl 0 (sl 1 sz)) (by kernel_rfl) ?_
 refine box trv1 rfl rfl rfl rfl (fun bkb1 hbkb1 => ?_)
 refine alc Try.zeroValue26 rfl trv1 rfl rfl (fun bka2 hbka2 => ?_)
 refine rNil ?_
 refine qSeq rfl ?_
 refine hSeq ?_
 refine hReg (sq 0 (sl 1 (sq 2 (sl 3 (sq 4 (sl 5 (sl 6 sz))))))) (by kernel_rfl) ?_
 refine fld fl26_0 rfl rfl rfl ?_
 refine ldl Try.isAgg24 (cB 1 rfl rfl) trv rfl rfl rfl ?_
 refine lenS Try.runUnderlying24 rfl rfl rfl ?_
 refine mksR (e1 := 2) nz dN ndK.ok rfl rfl mk24 trv1 rfl rfl rfl rfl (rfl) (by omega) (fun bkm3 hbkm3 => ?_)
 refine bld rfl rfl rfl (bld26_0 (.slice _ _ _) rfl) ?_
 refine alc Try.zeroValue26 rfl trv1 rfl rfl (fun bka4 hbka4 => ?_)
 refine stAl (vs := [.slice (some ⟨bkm3, 0, none⟩) nz nz]) 0 rfl Try.sizeOf26 trv rfl rfl rfl rfl rfl (by simp [Value.oneCell']) rfl ?_
 refine rNil ?_
 refine qSeq rfl ?_
 refine hSeq ?_
 refine hSeq ?_
 refine hReg (sq 0 (sl 1 (sq 2 (sq 3 sz)))) (by kernel_rfl) ?_
 refine fld fl26_0 rfl rfl rfl ?_
 refine ldl Try.isAgg24 (cB 3 rfl rfl) trv rfl rfl rfl ?_
 refine lenS Try.runUnderlying24 rfl rfl rfl ?_
 refine mvI rfl rfl rfl ?_
 refine rNil ?_
 refine qSeq rfl ?_
 refine hBlk ?_
 rw [Math.fill_start z nz dN]
 refine hLoop (α := Nat × (Nat → Hd)) (fun x => x.1 ≤ nz) (fun x => nz - x.1) (fun x => [blk bka4 26 [.slice (some ⟨bkm3, 0, none⟩) nz nz], OwnR ndK 88 2 (some ⟨bkm3, 0, none⟩) nz nz x.2 ((z.take x.1 ++ List.replicate (nz - x.1) dN)), blk bka2 26 [.slice none 0 0], blk bkb1 26 [.slice az nz cz]]) (fun x => [(2, .pointer (some ⟨bka2, 0, none⟩)), (3, .pointer (some ⟨bka4, 0, none⟩)), (12, .slice az nz cz), (13, .int .i64 (nz : Int)), (14, .int .i64 (x.1 : Int))]) ((0, fun _ => (none, 0))) (Nat.zero_le _) (fun _ h => h.pick [0, 0, 0, 0]) ⟨rfl, rfl, rfl, rfl, rfl, trivial⟩ ?_
 rintro ⟨i, hh⟩ τ1 hi
 dsimp only at hi
 refine hRe [(2, .pointer (some ⟨bka2, 0, none⟩)), (3, .pointer (some ⟨bka4, 0, none⟩)), (12, .slice az nz cz), (13, .int .i64 (nz : Int)), (14, .int .i64 (i : Int))] [blk bka4 26 [.slice (some ⟨bkm3, 0, none⟩) nz nz], OwnR ndK 88 2 (some ⟨bkm3, 0, none⟩) nz nz hh ((z.take i ++ List.replicate (nz - i) dN)), blk bka2 26 [.slice none 0 0], blk bkb1 26 [.slice az nz cz]] rfl rfl ?_
 refine hSeq ?_
 refine hReg (sq 0 sz) (by kernel_rfl) ?_
 refine lss rfl rfl rfl rfl ?_
 refine rNil ?_
 refine qSeq rfl ?_
 refine hSeq ?_
 refine hIfD rfl (fun c1 => ?_) (fun c1 => ?_)
 ·
  replace c1 : (i : Int) < (nz : Int) := c1
  have hch := (Math.ok_pl ((Math.allOk_iff' lz).1 hT.2.1 i (by omega))).2.2.2.2.1
  refine hSkip ?_
  refine qSeq rfl ?_
  refine hSeq ?_
  refine hBlk ?_
  refine hSeq ?_
  refine hReg (sq 0 (sq 1 (sl 2 (sl 3 (sq 4 (sl 5 sz)))))) (by kernel_rfl) ?_
  refine mvI rfl rfl rfl ?_
  refine ixRl (zn := i) (z.getD i dN) el24 (Kn.drop (k := 4) kz) rfl rfl rfl rfl (by omega) (by omega) rfl (nth dN (by omega)) ?_
  intro be1 oe1 e1
  refine ldAl Try.isAgg88 Try.sizeOf88 (e1) trv rfl rfl rfl rfl ?_
  refine alc Try.zeroValue88 rfl trv1 rfl rfl (fun bka5 hbka5 => ?_)
  refine asI rfl rfl rfl ?_
  refine stAl (vs := [.int .i64 ((z.getD i dN).pl), .int .i64 ((z.getD i dN).p0), .int .i64 ((z.getD i dN).p1), .int .i64 ((z.getD i dN).fo), .slice ((Hz i).1) (((z.getD i dN).ch).length) ((Hz i).2)]) 0 rfl Try.sizeOf88 trv rfl rfl rfl rfl rfl (by simp [Value.oneCell']) rfl ?_
  refine rNil ?_
  refine qSeq rfl ?_
  refine hSeq ?_
  refine hReg (sq 0 (sl 1 (sl 2 (sq 3 (sl 4 sz))))) (by kernel_rfl) ?_
  refine fld fl88_4 rfl rfl rfl ?_
  refine ldl Try.isAgg28 (cB 0 rfl rfl) trv rfl rfl rfl ?_
  refine callS Try.call182 trv1 rfl rfl (fun w hs => slices_Clone_int64_int64_c _ (((z.getD i dN).ch).length) ((Hz i).2) _ w (Kn.drop (k := 5) ((Kn.imp kz fun _ h => h.kidN (nth dN (by omega)))) w hs) (by omega)) ?_
  rintro ⟨ay2, ny2, cy2, y2⟩ hr2
  dsimp only at hr2
  subst y2
  refine rKnow (fun w hs => (show OwnI 2 ay2 ny2 cy2 (((((z.getD i dN).ch)))) w from hs.at_ 0 rfl).lenz) (fun lenn6 => ?_)
  refine fld fl88_4 rfl rfl rfl ?_
  refine stl (v := .slice _ _ _) 1 rfl Try.sizeOf28 trv rfl rfl rfl rfl rfl (Nat.le_of_ble_eq_true rfl) ?_
  refine rNil ?_
  refine qSeq rfl ?_
  refine hReg (sq 0 (sl 1 (sq 2 (sl 3 (sq 4 (sl 5 sz)))))) (by kernel_rfl) ?_
  refine fld fl26_0 rfl rfl rfl ?_
  refine ldl Try.isAgg24 (cB 2 rfl rfl) trv rfl rfl rfl ?_
  refine mvI rfl rfl rfl ?_
  refine ldAl Try.isAgg88 Try.sizeOf88 (cBs 1 rfl) trv rfl rfl rfl rfl ?_
  refine oxR (zn := i) 3 rfl el24 rfl rfl rfl rfl (by omega) (by omega) rfl ?_
  intro gk3 hgk3
  refine stR (hd := (ay2, cy2)) (x := (Nd.mk ((z.getD i dN).pl) ((z.getD i dN).p0) ((z.getD i dN).p1) ((z.getD i dN).fo) (((((z.getD i dN).ch)))))) (v := .agg #[.int .i64 ((z.getD i dN).pl), .int .i64 ((z.getD i dN).p0), .int .i64 ((z.getD i dN).p1), .int .i64 ((z.getD i dN).fo), .slice ay2 ny2 cy2]) i 3 0 ndK.ok rfl rfl hgk3 Try.sizeOf88 trv rfl rfl rfl rfl rfl (fun h => by first | rfl | (dsimp only at h; rw [h]; rfl) | (rw [h]; rfl) | exact congrArg (fun m => [Value.slice _ m _]) h | (simp only [maK, List.length_replicate]; rfl)) (by omega) ?_
  refine rNil ?_
  refine qSeq rfl ?_
  refine hReg (sq 0 (sq 1 sz)) (by kernel_rfl) ?_
  refine add rfl rfl rfl rfl (by omega) ?_
  refine mvI rfl rfl rfl ?_
  refine rNil ?_
  rw [Math.fill_step dN dN lz (by omega)]
  exact qNext rfl ((i + 1, (hset hh i (ay2, cy2)))) (by dsimp only; omega) (by dsimp only; omega) ⟨rfl, rfl, rfl, rfl, rfl, trivial⟩ (fun _ h => h.pick [2, 0, 1, 1])
 ·
  replace c1 : ¬ ((i : Int) < (nz : Int)) := c1
  refine hExit rfl ?_
  refine qSeq rfl ?_
  refine hSeq ?_
  refine hReg (sl 0 (sl 1 sz)) (by kernel_rfl) ?_
  refine ldAl Try.isAgg26 Try.sizeOf26 (cBs 0 rfl) trv rfl rfl rfl rfl ?_
  refine stAl (vs := [.slice (some ⟨bkm3, 0, none⟩) nz nz]) 2 rfl Try.sizeOf26 trv rfl rfl rfl rfl rfl (by simp [Value.oneCell']) rfl ?_
  refine rNil ?_
  refine qSeq rfl ?_
  refine hRet ?_
  exact fun w hs => ⟨[_], ⟨⟨_, rfl, run_load_agg Try.isAgg26 Try.sizeOf26 rfl (cBs 2 rfl w hs)⟩, trivial⟩, ⟨((some ⟨bkm3, 0, none⟩), nz, nz, hh, (z.take i ++ List.replicate (nz - i) dN)), rfl, Math.fill_end _ lz (by omega), hs.pick [1]⟩⟩
theorem spec_l21Tree_c (az : Option Addr) (nz : Nat) (cz : Nat) (Hz : Nat → Hd) (z : List Nd) (w : World) (rz : RdR ndK az nz Hz z w) (hn : nz ≤ 1000) (hkb : Math.kidsB z) :
  Calls Try.prog 171 #[.agg #[.slice az nz cz]] w (Ret fun v w' => ∃ x : Option Addr × Nat × Nat × (Nat → Hd) × List Nd, v = .agg #[.slice x.1 x.2.1 x.2.2.1] ∧ (x.2.2.2.2 = z) ∧ Sep w none_ [OwnR ndK 88 2 x.1 x.2.1 x.2.2.1 x.2.2.2.1 x.2.2.2.2] w') := by
 have kz : Kn w none_ [] (RdR ndK az nz Hz z) := fun w' hs => rz.ext hs.upd
 have lz : z.length = nz := rz.1
 have mz : nz ≤ 9223372036854775807 := rz.2.1
 refine fn (M := none_) (rs := [.cell 2 26]) Try.func171 rfl Try.ntmps171 rfl rfl (Sep.start _ _) ?_
 refine hSeq ?_
 refine hReg (sl 0 (sl 1 sz)) (by kernel_rfl) ?_
 refine box trv1 rfl rfl rfl rfl (fun bkb1 hbkb1 => ?_)
 refine alc Try.zeroValue26 rfl trv1 rfl rfl (fun bka2 hbka2 => ?_)
 refine rNil ?_
 refine qSeq rfl ?_
 refine hSeq ?_
 refine hReg (sl 0 (sq 1 sz)) (by kernel_rfl) ?_
 refine bsl trv1 rfl rfl rfl (bsl24_0) (fun bkl3 hbkl3 => ?_)
 refine asS rfl rfl rfl ?_
 refine rNil ?_
 refine qSeq rfl ?_
 refine hSeq ?_
 refine hSeq ?_
 refine hReg (sq 0 sz) (by kernel_rfl) ?_
 refine asI rfl rfl rfl ?_
 refine rNil ?_
 refine qSeq rfl ?_
 refine hBlk ?_
 refine hPieces (fun _ h => Sep.litR ndK 88 2 (fun _ => (none, 0)) h 0 rfl) ?_
 refine hLoop (α := Nat × Nat × Hd × (Nat → Hd)) (fun x => x.1 ≤ nz ∧ x.2.1 = x.1) (fun x => nz - x.1) (fun x => [OwnR ndK 88 2 x.2.2.1.1 x.2.1 x.2.2.1.2 x.2.2.2 (z.take x.1), blk bka2 26 [.slice none 0 0], blk bkb1 26 [.slice az nz cz]]) (fun x => [(1, .pointer (some ⟨bkb1, 0, none⟩)), (2, .pointer (some ⟨bka2, 0, none⟩)), (3, .slice x.2.2.1.1 x.2.1 x.2.2.1.2), (4, .int .i64 (x.1 : Int))]) ((0, 0, (((some ⟨bkl3, 0, none⟩), 0), (fun _ => (none, 0))))) ⟨Nat.zero_le _, rfl⟩ (fun _ h => h.pick [0, 0, 0]) ⟨rfl, rfl, rfl, rfl, trivial⟩ ?_
 rintro ⟨i, q, hd⟩ τ1 ⟨hi, hq⟩
 dsimp only at hi hq
 refine hRe [(1, .pointer (some ⟨bkb1, 0, none⟩)), (2, .pointer (some ⟨bka2, 0, none⟩)), (3, .slice hd.1.1 q hd.1.2), (4, .int .i64 (i : Int))] [OwnR ndK 88 2 hd.1.1 q hd.1.2 hd.2 (z.take i), blk bka2 26 [.slice none 0 0], blk bkb1 26 [.slice az nz cz]] rfl rfl ?_
 refine hSeq ?_
 refine hSeq ?_
 refine hReg (sq 0 (sq 1 (sl 2 (sq 3 (sq 4 sz))))) (by kernel_rfl) ?_
 refine mvI rfl rfl rfl ?_
 refine fld fl26_0 rfl rfl rfl ?_
 refine ldl Try.isAgg24 (cB 2 rfl rfl) trv rfl rfl rfl ?_
 refine lenS Try.runUnderlying24 rfl rfl rfl ?_
 refine lss rfl rfl rfl rfl ?_
 refine rNil ?_
 refine qSeq rfl ?_
 refine hIfD rfl (fun c1 => ?_) (fun c1 => ?_)
 ·
  replace c1 : (i : Int) < (nz : Int) := c1
  have hch := Math.kidsB_at hkb i
  refine hSkip ?_
  refine qSeq rfl ?_
  refine hSeq ?_
  refine hBlk ?_
  refine hSeq ?_
  refine hReg (sq 0 (sl 1 (sq 2 (sq 3 (sl 4 (sl 5 (sl 6 sz))))))) (by kernel_rfl) ?_
  refine fld fl26_0 rfl rfl rfl ?_
  refine ldl Try.isAgg24 (cB 2 rfl rfl) trv rfl rfl rfl ?_
  refine mvI rfl rfl rfl ?_
  refine ixRl (zn := i) (z.getD i dN) el24 (Kn.drop (k := 3) kz) rfl rfl rfl rfl (by omega) (by omega) rfl (nth dN (by omega)) ?_
  intro be1 oe1 e1
  refine ldAl Try.isAgg88 Try.sizeOf88 (e1) trv rfl rfl rfl rfl ?_
  refine alc Try.zeroValue88 rfl trv1 rfl rfl (fun bka4 hbka4 => ?_)
  refine stAl (vs := [.int .i64 ((z.getD i dN).pl), .int .i64 ((z.getD i dN).p0), .int .i64 ((z.getD i dN).p1), .int .i64 ((z.getD i dN).fo), .slice ((Hz i).1) (((z.getD i dN).ch).length) ((Hz i).2)]) 0 rfl Try.sizeOf88 trv rfl rfl rfl rfl rfl (by simp [Value.oneCell']) rfl ?_
  refine rNil ?_
  refine qSeq rfl ?_
  refine hSeq ?_
  refine hReg (sq 0 (sl 1 (sl 2 (sq 3 (sl 4 sz))))) (by kernel_rfl) ?_
  refine fld fl88_4 rfl rfl rfl ?_
  refine ldl Try.isAgg28 (cB 0 rfl rfl) trv rfl rfl rfl ?_
  refine callS Try.call160 trv1 rfl rfl (fun w hs => spec_l01Own_c _ (((z.getD i dN).ch).length) ((Hz i).2) _ w (Kn.drop (k := 4) ((Kn.imp kz fun _ h => h.kidN (nth dN (by omega)))) w hs) (by omega)) ?_
  rintro ⟨ay2, ny2, cy2, y2⟩ hr2
  dsimp only at hr2
  subst y2
  refine rKnow (fun w hs => (show OwnI 2 ay2 ny2 cy2 (((((z.getD i dN).ch)))) w from hs.at_ 0 rfl).lenz) (fun lenn5 => ?_)
  refine fld fl88_4 rfl rfl rfl ?_
  refine stl (v := .slice _ _ _) 1 rfl Try.sizeOf28 trv rfl rfl rfl rfl rfl (Nat.le_of_ble_eq_true rfl) ?_
  refine rNil ?_
  refine qSeq rfl ?_
  refine hReg (sq 0 (sl 1 (sl 2 (sl 3 (sq 4 sz))))) (by kernel_rfl) ?_
  refine mvS rfl rfl rfl ?_
  refine ldAl Try.isAgg88 Try.sizeOf88 (cBs 1 rfl) trv rfl rfl rfl rfl ?_
  refine bsl trv1 rfl rfl rfl (bsl24_1 (.int .i64 ((z.getD i dN).pl)) (.int .i64 ((z.getD i dN).p0)) (.int .i64 ((z.getD i dN).p1)) (.int .i64 ((z.getD i dN).fo)) (.slice ay2 ny2 cy2) rfl rfl rfl rfl rfl) (fun bkl6 hbkl6 => ?_)
  refine apR (hd := (ay2, cy2)) (x := (Nd.mk ((z.getD i dN).pl) ((z.getD i dN).p0) ((z.getD i dN).p1) ((z.getD i dN).fo) (((((z.getD i dN).ch)))))) 3 1 0 ndK.ok rfl rfl rfl (fun h => by first | rfl | (dsimp only at h; rw [h]; rfl) | (rw [h]; rfl) | exact congrArg (fun m => [Value.slice _ m _]) h) mk24 trv1 rfl rfl rfl rfl (by omega) ?_
  intro aq3 cq3
  refine asS rfl rfl rfl ?_
  refine rNil ?_
  refine qSeq rfl ?_
  refine hReg (sq 0 (sq 1 (sq 2 sz))) (by kernel_rfl) ?_
  refine mvI rfl rfl rfl ?_
  refine add rfl rfl rfl rfl (by omega) ?_
  refine asI rfl rfl rfl ?_
  refine rNil ?_
  rw [Math.take_snoc dN (by omega)]
  exact qNext rfl ((i + 1, q + 1, ((aq3, cq3), (hset hd.2 (z.take i).length (ay2, cy2))))) (by dsimp only; omega) ⟨by dsimp only; omega, by dsimp only; omega⟩ ⟨rfl, rfl, rfl, rfl, trivial⟩ (fun _ h => h.pick [0, 2, 2])
 ·
  replace c1 : ¬ ((i : Int) < (nz : Int)) := c1
  refine hExit rfl ?_
  refine qSeq rfl ?_
  refine hSeq ?_
  refine hReg (sq 0 (sq 1 (sl 2 sz))) (by kernel_rfl) ?_
  refine mvS rfl rfl rfl ?_
  refine bld rfl rfl rfl (bld26_0 (.slice _ _ _) rfl) ?_
  refine stAl (vs := [.slice hd.1.1 q hd.1.2]) 1 rfl Try.sizeOf26 trv rfl rfl rfl rfl rfl (by simp [Value.oneCell']) rfl ?_
  refine rNil ?_
  refine qSeq rfl ?_
  refine hRet ?_
  exact fun w hs => ⟨[_], ⟨⟨_, rfl, run_load_agg Try.isAgg26 Try.sizeOf26 rfl (cBs 1 rfl w hs)⟩, trivial⟩, ⟨(hd.1.1, q, hd.1.2, hd.2, (z.take i)), rfl, List.take_of_length_le (by omega), hs.pick [0]⟩⟩
theorem spec_l04Order_c (x0 : Int) (y0 : Int) (w : World) :
  Calls Try.prog 170 #[.int .i64 x0, .int .i64 y0] w (Ret fun v w' => v = .int .i64 (Math.order x0 y0) ∧ Ext w w') := by
 refine fn (M := none_) (rs := [.tmp 4]) Try.func170 rfl Try.ntmps170 rfl rfl (Sep.start _ _) ?_
 refine hSeq ?_
 refine hReg (sq 0 sz) (by kernel_rfl) ?_
 refine asI rfl rfl rfl ?_
 refine rNil ?_
 refine qSeq rfl ?_
 refine hSeq ?_
 refine hBlk ?_
 refine hSeq ?_
 refine hReg (sq 0 (sq 1 (sq 2 (sq 3 sz)))) (by kernel_rfl) ?_
 refine mvI rfl rfl rfl ?_
 refine mvI rfl rfl rfl ?_
 refine lss rfl rfl rfl rfl ?_
 refine asB rfl rfl rfl ?_
 refine rNil ?_
 refine qSeq rfl ?_
 refine hIfD rfl (fun c1 => ?_) (fun c1 => ?_)
 ·
  replace c1 : x0 < y0 := c1
  refine hSeq ?_
  refine hReg (sq 0 sz) (by kernel_rfl) ?_
  refine asI rfl rfl rfl ?_
  refine rNil ?_
  refine qSeq rfl ?_
  refine hRet ?_
  exact fun w hs => ⟨[.int .i64 (-1)], ⟨rfl, trivial⟩, ⟨vI (by unfold Math.order; (repeat' split) <;> omega), hs.upd⟩⟩
 ·
  replace c1 : ¬ (x0 < y0) := c1
  refine hSeq ?_
  refine hReg (sq 0 (sq 1 (sq 2 (sq 3 sz)))) (by kernel_rfl) ?_
  refine mvI rfl rfl rfl ?_
  refine mvI rfl rfl rfl ?_
  refine gtr rfl rfl rfl rfl ?_
  refine asB rfl rfl rfl ?_
  refine rNil ?_
  refine qSeq rfl ?_
  refine hIfD rfl (fun c2 => ?_) (fun c2 => ?_)
  ·
   replace c2 : y0 < x0 := c2
   refine hSeq ?_
   refine hReg (sq 0 sz) (by kernel_rfl) ?_
   refine asI rfl rfl rfl ?_
   refine rNil ?_
   refine qSeq rfl ?_
   refine hRet ?_
   exact fun w hs => ⟨[.int .i64 1], ⟨rfl, trivial⟩, ⟨vI (by unfold Math.order; (repeat' split) <;> omega), hs.upd⟩⟩
  ·
   replace c2 : ¬ (y0 < x0) := c2
   refine hSkip ?_
   refine qSeq rfl ?_
   refine hSeq ?_
   refine hReg (sq 0 sz) (by kernel_rfl) ?_
   refine asI rfl rfl rfl ?_
   refine rNil ?_
   refine qSeq rfl ?_
   refine hRet ?_
   exact fun w hs => ⟨[.int .i64 0], ⟨rfl, trivial⟩, ⟨vI (by unfold Math.order; (repeat' split) <;> omega), hs.upd⟩⟩
set_option maxHeartbeats 2000000 in
theorem spec_l21HighCard_c (az : Option Addr) (nz : Nat) (cz : Nat) (Hz : Nat → Hd) (z : List Nd) (kk : Int) (ag : Bool) (w : World) (rz : RdR ndK az nz Hz z w) (hn : nz ≤ 1000) (hkb : Math.kidsB z) (hkk : 0 ≤ kk ∧ kk ≤ 6) :
  Calls Try.prog 128 #[.agg #[.slice az nz cz], .int .i64 kk, .bool ag] w (Ret fun v w' => ∃ x : Option Addr × Nat × Nat × (Nat → Hd) × List Nd × Option Addr × Nat × Nat × (Nat → Hd) × List (List Int) × Option Addr × Nat × Nat × (Nat → Hd) × List (List Int), v = .agg #[.slice x.1 x.2.1 x.2.2.1, .slice x.2.2.2.2.2.1 x.2.2.2.2.2.2.1 x.2.2.2.2.2.2.2.1, .slice x.2.2.2.2.2.2.2.2.2.2.1 x.2.2.2.2.2.2.2.2.2.2.2.1 x.2.2.2.2.2.2.2.2.2.2.2.2.1] ∧ (x.2.2.2.2.1 = z ∧ x.2.2.2.2.2.2.2.2.2.1 = Math.hcW kk.toNat ag kk.toNat ∧ x.2.2.2.2.2.2.2.2.2.2.2.2.2.2 = Math.hcV kk.toNat kk.toNat) ∧ Sep w none_ [OwnR ndK 88 2 x.1 x.2.1 x.2.2.1 x.2.2.2.1 x.2.2.2.2.1, OwnR maK 28 2 x.2.2.2.2.2.1 x.2.2.2.2.2.2.1 x.2.2.2.2.2.2.2.1 x.2.2.2.2.2.2.2.2.1 x.2.2.2.2.2.2.2.2.2.1, OwnR maK 28 2 x.2.2.2.2.2.2.2.2.2.2.1 x.2.2.2.2.2.2.2.2.2.2.2.1 x.2.2.2.2.2.2.2.2.2.2.2.2.1 x.2.2.2.2.2.2.2.2.2.2.2.2.2.1 x.2.2.2.2.2.2.2.2.2.2.2.2.2.2] w') := by
 have kz : Kn w none_ [] (RdR ndK az nz Hz z) := fun w' hs => rz.ext hs.upd
 have lz : z.length = nz := rz.1
 have mz : nz ≤ 9223372036854775807 := rz.2.1
 refine fn (M := none_) (rs := [.cell 6 43]) Try.func128 rfl Try.ntmps128 rfl rfl (Sep.start _ _) ?_
 refine hSeq ?_
 refine hReg (sl 0 (sl 1 sz)) (by kernel_rfl) ?_
 refine box trv1 rfl rfl rfl rfl (fun bkb1 hbkb1 => ?_)
 refine alc Try.zeroValue43 rfl trv1 rfl rfl (fun bka2 hbka2 => ?_)
 refine rNil ?_
 refine qSeq rfl ?_
 refine hSeq ?_
 refine hReg (sl 0 (sl 1 (sq 2 (sq 3 sz)))) (by kernel_rfl) ?_
 refine bsl trv1 rfl rfl rfl (bsl41_0) (fun bkl3 hbkl3 => ?_)
 refine bsl trv1 rfl rfl rfl (bsl41_0) (fun bkl4 hbkl4 => ?_)
 refine asS rfl rfl rfl ?_
 refine asS rfl rfl rfl ?_
 refine rNil ?_
 refine qSeq rfl ?_
 refine hSeq ?_
 refine hSeq ?_
 refine hReg (sq 0 sz) (by kernel_rfl) ?_
 refine asI rfl rfl rfl ?_
 refine rNil ?_
 refine qSeq rfl ?_
 refine hBlk ?_
 refine hPieces (fun _ h => Sep.litR maK 28 2 (fun _ => (none, 0)) h 1 rfl) ?_
 refine hPieces (fun _ h => Sep.litR maK 28 2 (fun _ => (none, 0)) h 0 rfl) ?_
 refine hLoop (α := Nat × Nat × (Hd × (Nat → Hd)) × (Hd × (Nat → Hd))) (fun x => (x.1 : Int) ≤ kk ∧ x.2.1 = x.1) (fun x => kk.toNat - x.1) (fun x => [OwnR maK 28 2 x.2.2.2.1.1 x.2.1 x.2.2.2.1.2 x.2.2.2.2 (Math.hcV kk.toNat x.1), OwnR maK 28 2 x.2.2.1.1.1 x.2.1 x.2.2.1.1.2 x.2.2.1.2 (Math.hcW kk.toNat ag x.1), blk bka2 43 [.slice none 0 0, .slice none 0 0, .slice none 0 0], blk bkb1 26 [.slice az nz cz]]) (fun x => [(1, .int .i64 kk), (2, .bool ag), (3, .pointer (some ⟨bkb1, 0, none⟩)), (6, .pointer (some ⟨bka2, 0, none⟩)), (7, .slice x.2.2.1.1.1 x.2.1 x.2.2.1.1.2), (8, .slice x.2.2.2.1.1 x.2.1 x.2.2.2.1.2), (9, .int .i64 (x.1 : Int))]) ((0, 0, (((some ⟨bkl3, 0, none⟩), 0), (fun _ => (none, 0))), (((some ⟨bkl4, 0, none⟩), 0), (fun _ => (none, 0))))) ⟨by dsimp only; omega, rfl⟩ (fun _ h => h.pick [0, 0, 0, 0]) ⟨rfl, rfl, rfl, rfl, rfl, rfl, rfl, trivial⟩ ?_
 rintro ⟨i, q, hd, he⟩ τ1 ⟨hi, hq⟩
 dsimp only at hi hq
 refine hRe [(1, .int .i64 kk), (2, .bool ag), (3, .pointer (some ⟨bkb1, 0, none⟩)), (6, .pointer (some ⟨bka2, 0, none⟩)), (7, .slice hd.1.1 q hd.1.2), (8, .slice he.1.1 q he.1.2), (9, .int .i64 (i : Int))] [OwnR maK 28 2 he.1.1 q he.1.2 he.2 (Math.hcV kk.toNat i), OwnR maK 28 2 hd.1.1 q hd.1.2 hd.2 (Math.hcW kk.toNat ag i), blk bka2 43 [.slice none 0 0, .slice none 0 0, .slice none 0 0], blk bkb1 26 [.slice az nz cz]] rfl rfl ?_
 refine hSeq ?_
 refine hSeq ?_
 refine hReg (sq 0 (sq 1 (sq 2 sz))) (by kernel_rfl) ?_
 refine mvI rfl rfl rfl ?_
 refine mvI rfl rfl rfl ?_
 refine lss rfl rfl rfl rfl ?_
 refine rNil ?_
 refine qSeq rfl ?_
 refine hIfD rfl (fun c1 => ?_) (fun c1 => ?_)
 ·
  replace c1 : (i : Int) < kk := c1
  refine hSkip ?_
  refine qSeq rfl ?_
  refine hSeq ?_
  refine hBlk ?_
  refine hSeq ?_
  refine hReg (sl 0 (sl 1 (sq 2 (sq 3 sz)))) (by kernel_rfl) ?_
  refine bsl trv1 rfl rfl rfl (bsl28_0) (fun bkl5 hbkl5 => ?_)
  refine bsl trv1 rfl rfl rfl (bsl28_0) (fun bkl6 hbkl6 => ?_)
  refine asS rfl rfl rfl ?_
  refine asS rfl rfl rfl ?_
  refine rNil ?_
  refine qSeq rfl ?_
  refine hSeq ?_
  refine hSeq ?_
  refine hReg (sq 0 sz) (by kernel_rfl) ?_
  refine asI rfl rfl rfl ?_
  refine rNil ?_
  refine qSeq rfl ?_
  refine hBlk ?_
  refine hPieces (fun _ h => Sep.litI h 1 [] rfl rfl rfl) ?_
  refine hPieces (fun _ h => Sep.litI h 0 [] rfl rfl rfl) ?_
  refine hLoop (α := Nat × Nat × Hd × Hd) (fun x => (x.1 : Int) ≤ kk ∧ x.2.1 = x.1) (fun x => kk.toNat - x.1) (fun x => [OwnI 2 x.2.2.2.1 x.2.1 x.2.2.2.2 ((Math.mapR (fun b => Math.order (i : Int) (b : Int)) x.1)), OwnI 2 x.2.2.1.1 x.2.1 x.2.2.1.2 ((Math.mapR (Math.hcCell ag i) x.1)), OwnR maK 28 2 he.1.1 q he.1.2 he.2 (Math.hcV kk.toNat i), OwnR maK 28 2 hd.1.1 q hd.1.2 hd.2 (Math.hcW kk.toNat ag i), blk bka2 43 [.slice none 0 0, .slice none 0 0, .slice none 0 0], blk bkb1 26 [.slice az nz cz]]) (fun x => [(1, .int .i64 kk), (2, .bool ag), (3, .pointer (some ⟨bkb1, 0, none⟩)), (6, .pointer (some ⟨bka2, 0, none⟩)), (7, .slice hd.1.1 q hd.1.2), (8, .slice he.1.1 q he.1.2), (9, .int .i64 (i : Int)), (10, .slice x.2.2.1.1 x.2.1 x.2.2.1.2), (11, .slice x.2.2.2.1 x.2.1 x.2.2.2.2), (12, .int .i64 (x.1 : Int))]) ((0, 0, ((some ⟨bkl5, 0, none⟩), 0), ((some ⟨bkl6, 0, none⟩), 0))) ⟨by dsimp only; omega, rfl⟩ (fun _ h => h.pick [0, 0, 0, 0, 0, 0]) ⟨rfl, rfl, rfl, rfl, rfl, rfl, rfl, rfl, rfl, rfl, trivial⟩ ?_
  rintro ⟨j, q2, h3, h4⟩ τ2 ⟨hj, hq2⟩
  dsimp only at hj hq2
  refine hRe [(1, .int .i64 kk), (2, .bool ag), (3, .pointer (some ⟨bkb1, 0, none⟩)), (6, .pointer (some ⟨bka2, 0, none⟩)), (7, .slice hd.1.1 q hd.1.2), (8, .slice he.1.1 q he.1.2), (9, .int .i64 (i : Int)), (10, .slice h3.1 q2 h3.2), (11, .slice h4.1 q2 h4.2), (12, .int .i64 (j : Int))] [OwnI 2 h4.1 q2 h4.2 ((Math.mapR (fun b => Math.order (i : Int) (b : Int)) j)), OwnI 2 h3.1 q2 h3.2 ((Math.mapR (Math.hcCell ag i) j)), OwnR maK 28 2 he.1.1 q he.1.2 he.2 (Math.hcV kk.toNat i), OwnR maK 28 2 hd.1.1 q hd.1.2 hd.2 (Math.hcW kk.toNat ag i), blk bka2 43 [.slice none 0 0, .slice none 0 0, .slice none 0 0], blk bkb1 26 [.slice az nz cz]] rfl rfl ?_
  refine hSeq ?_
  refine hSeq ?_
  refine hReg (sq 0 (sq 1 (sq 2 sz))) (by kernel_rfl) ?_
  refine mvI rfl rfl rfl ?_
  refine mvI rfl rfl rfl ?_
  refine lss rfl rfl rfl rfl ?_
  refine rNil ?_
  refine qSeq rfl ?_
  refine hIfD rfl (fun c2 => ?_) (fun c2 => ?_)
  ·
   replace c2 : (j : Int) < kk := c2
   refine hSkip ?_
   refine qSeq rfl ?_
   refine hSeq ?_
   refine hBlk ?_
   refine hSeq ?_
   refine hSeq ?_
   refine hReg (sq 0 (sq 1 (sq 2 (sq 3 (sq 4 (sq 5 (sq 6 sz))))))) (by kernel_rfl) ?_
   refine mvI rfl rfl rfl ?_
   refine mvI rfl rfl rfl ?_
   refine eql rfl rfl rfl rfl ?_
   refine mvB rfl rfl rfl ?_
   refine rBoolD (d := 30) rfl (fun g3 => ?_) (fun g3 => ?_)
   ·
    replace g3 : (i : Int) = (j : Int) := g3
    refine mvB rfl rfl rfl ?_
    refine not rfl rfl rfl ?_
    refine pickB rfl rfl rfl rfl ?_
    refine rNil ?_
    refine qSeq rfl ?_
    refine hIfN rfl (fun c4 => ?_) (fun c4 => ?_)
    ·
     replace c4 : ag = false := c4
     refine hReg (sq 0 (sl 1 (sl 2 (sq 3 sz)))) (by kernel_rfl) ?_
     refine mvS rfl rfl rfl ?_
     refine bsl trv1 rfl rfl rfl (bsl28_1 (.int .i64 _) rfl) (fun bkl7 hbkl7 => ?_)
     refine aplI (N := q2) (x := 0) 2 0 rfl rfl mk28 trv1 rfl rfl rfl rfl (by omega) ?_
     intro aq1 cq1
     refine asS rfl rfl rfl ?_
     refine rNil ?_
     refine qSeq rfl ?_
     refine hReg (sq 0 (sq 1 (sq 2 (sl 3 (sl 4 (sl 5 (sq 6 sz))))))) (by kernel_rfl) ?_
     refine mvS rfl rfl rfl ?_
     refine mvI rfl rfl rfl ?_
     refine mvI rfl rfl rfl ?_
     refine callP (v := .int .i64 ((Math.order (i : Int) (j : Int)))) Try.call170 trv rfl rfl (fun w hs => spec_l04Order_c _ _ w ) ?_
     refine bsl trv1 rfl rfl rfl (bsl28_1 (.int .i64 _) rfl) (fun bkl8 hbkl8 => ?_)
     refine aplI (N := q2) (x := (Math.order (i : Int) (j : Int))) 2 0 rfl rfl mk28 trv1 rfl rfl rfl rfl (by omega) ?_
     intro aq2 cq2
     refine asS rfl rfl rfl ?_
     refine rNil ?_
     refine qSeq rfl ?_
     refine hReg (sq 0 (sq 1 (sq 2 sz))) (by kernel_rfl) ?_
     refine mvI rfl rfl rfl ?_
     refine add rfl rfl rfl rfl (by omega) ?_
     refine asI rfl rfl rfl ?_
     refine rNil ?_
     rw [Math.hcRow_add0 g3 (by simpa using c4), show Math.mapR (fun b => Math.order (i : Int) (b : Int)) j ++ [Math.order (i : Int) (j : Int)] = Math.mapR (fun b => Math.order (i : Int) (b : Int)) (j + 1) from Math.mapR_snoc (fun b => Math.order (i : Int) (b : Int)) j]
     exact qNext rfl ((j + 1, q2 + 1, (aq1, cq1), (aq2, cq2))) (by dsimp only; omega) ⟨by dsimp only; omega, by dsimp only; omega⟩ ⟨rfl, rfl, rfl, rfl, rfl, rfl, rfl, rfl, rfl, rfl, trivial⟩ (fun _ h => h.pick [2, 2, 2, 2, 2, 2])
    ·
     replace c4 : ag = true := c4
     refine hReg (sq 0 (sl 1 (sl 2 (sq 3 sz)))) (by kernel_rfl) ?_
     refine mvS rfl rfl rfl ?_
     refine bsl trv1 rfl rfl rfl (bsl28_1 (.int .i64 _) rfl) (fun bkl9 hbkl9 => ?_)
     refine aplI (N := q2) (x := 1) 2 0 rfl rfl mk28 trv1 rfl rfl rfl rfl (by omega) ?_
     intro aq3 cq3
     refine asS rfl rfl rfl ?_
     refine rNil ?_
     refine qSeq rfl ?_
     refine hReg (sq 0 (sq 1 (sq 2 (sl 3 (sl 4 (sl 5 (sq 6 sz))))))) (by kernel_rfl) ?_
     refine mvS rfl rfl rfl ?_
     refine mvI rfl rfl rfl ?_
     refine mvI rfl rfl rfl ?_
     refine callP (v := .int .i64 ((Math.order (i : Int) (j : Int)))) Try.call170 trv rfl rfl (fun w hs => spec_l04Order_c _ _ w ) ?_
     refine bsl trv1 rfl rfl rfl (bsl28_1 (.int .i64 _) rfl) (fun bkl10 hbkl10 => ?_)
     refine aplI (N := q2) (x := (Math.order (i : Int) (j : Int))) 2 0 rfl rfl mk28 trv1 rfl rfl rfl rfl (by omega) ?_
     intro aq4 cq4
     refine asS rfl rfl rfl ?_
     refine rNil ?_
     refine qSeq rfl ?_
     refine hReg (sq 0 (sq 1 (sq 2 sz))) (by kernel_rfl) ?_
     refine mvI rfl rfl rfl ?_
     refine add rfl rfl rfl rfl (by omega) ?_
     refine asI rfl rfl rfl ?_
     refine rNil ?_
     rw [Math.hcRow_add2 (by simpa using c4), show Math.mapR (fun b => Math.order (i : Int) (b : Int)) j ++ [Math.order (i : Int) (j : Int)] = Math.mapR (fun b => Math.order (i : Int) (b : Int)) (j + 1) from Math.mapR_snoc (fun b => Math.order (i : Int) (b : Int)) j]
     exact qNext rfl ((j + 1, q2 + 1, (aq3, cq3), (aq4, cq4))) (by dsimp only; omega) ⟨by dsimp only; omega, by dsimp only; omega⟩ ⟨rfl, rfl, rfl, rfl, rfl, rfl, rfl, rfl, rfl, rfl, trivial⟩ (fun _ h => h.pick [2, 2, 2, 2, 2, 2])
   ·
    replace g3 : ¬ ((i : Int) = (j : Int)) := g3
    refine rSkipQ rfl rfl ?_
    refine rSkipQ rfl rfl ?_
    refine pickB rfl rfl rfl rfl ?_
    refine rNil ?_
    refine qSeq rfl ?_
    refine hIfF rfl ?_
    refine hReg (sq 0 (sl 1 (sl 2 (sq 3 sz)))) (by kernel_rfl) ?_
    refine mvS rfl rfl rfl ?_
    refine bsl trv1 rfl rfl rfl (bsl28_1 (.int .i64 _) rfl) (fun bkl11 hbkl11 => ?_)
    refine aplI (N := q2) (x := 1) 2 0 rfl rfl mk28 trv1 rfl rfl rfl rfl (by omega) ?_
    intro aq5 cq5
    refine asS rfl rfl rfl ?_
    refine rNil ?_
    refine qSeq rfl ?_
    refine hReg (sq 0 (sq 1 (sq 2 (sl 3 (sl 4 (sl 5 (sq 6 sz))))))) (by kernel_rfl) ?_
    refine mvS rfl rfl rfl ?_
    refine mvI rfl rfl rfl ?_
    refine mvI rfl rfl rfl ?_
    refine callP (v := .int .i64 ((Math.order (i : Int) (j : Int)))) Try.call170 trv rfl rfl (fun w hs => spec_l04Order_c _ _ w ) ?_
    refine bsl trv1 rfl rfl rfl (bsl28_1 (.int .i64 _) rfl) (fun bkl12 hbkl12 => ?_)
    refine aplI (N := q2) (x := (Math.order (i : Int) (j : Int))) 2 0 rfl rfl mk28 trv1 rfl rfl rfl rfl (by omega) ?_
    intro aq6 cq6
    refine asS rfl rfl rfl ?_
    refine rNil ?_
    refine qSeq rfl ?_
    refine hReg (sq 0 (sq 1 (sq 2 sz))) (by kernel_rfl) ?_
    refine mvI rfl rfl rfl ?_
    refine add rfl rfl rfl rfl (by omega) ?_
    refine asI rfl rfl rfl ?_
    refine rNil ?_
    rw [Math.hcRow_add1 g3, show Math.mapR (fun b => Math.order (i : Int) (b : Int)) j ++ [Math.order (i : Int) (j : Int)] = Math.mapR (fun b => Math.order (i : Int) (b : Int)) (j + 1) from Math.mapR_snoc (fun b => Math.order (i : Int) (b : Int)) j]
    exact qNext rfl ((j + 1, q2 + 1, (aq5, cq5), (aq6, cq6))) (by dsimp only; omega) ⟨by dsimp only; omega, by dsimp only; omega⟩ ⟨rfl, rfl, rfl, rfl, rfl, rfl, rfl, rfl, rfl, rfl, trivial⟩ (fun _ h => h.pick [2, 2, 2, 2, 2, 2])
  ·
   replace c2 : ¬ ((j : Int) < kk) := c2
   refine hExit rfl ?_
   refine qSeq rfl ?_
   refine hSeq ?_
   refine hReg (sq 0 (sq 1 (sl 2 (sl 3 (sq 4 sz))))) (by kernel_rfl) ?_
   refine mvS rfl rfl rfl ?_
   refine mvS rfl rfl rfl ?_
   refine bsl trv1 rfl rfl rfl (bsl41_1 (.slice _ _ _) rfl) (fun bkl13 hbkl13 => ?_)
   refine apR (hd := (h3.1, h3.2)) (x := (Math.mapR (Math.hcCell ag i) j)) 4 2 0 maK.ok rfl rfl rfl (fun h => by first | rfl | (dsimp only at h; rw [h]; rfl) | (rw [h]; rfl) | exact congrArg (fun m => [Value.slice _ m _]) h) mk41 trv1 rfl rfl rfl rfl (by omega) ?_
   intro aq7 cq7
   refine asS rfl rfl rfl ?_
   refine rNil ?_
   refine qSeq rfl ?_
   refine hReg (sq 0 (sq 1 (sl 2 (sl 3 (sq 4 sz))))) (by kernel_rfl) ?_
   refine mvS rfl rfl rfl ?_
   refine mvS rfl rfl rfl ?_
   refine bsl trv1 rfl rfl rfl (bsl41_1 (.slice _ _ _) rfl) (fun bkl14 hbkl14 => ?_)
   refine apR (hd := (h4.1, h4.2)) (x := (Math.mapR (fun b => Math.order (i : Int) (b : Int)) j)) 4 3 0 maK.ok rfl rfl rfl (fun h => by first | rfl | (dsimp only at h; rw [h]; rfl) | (rw [h]; rfl) | exact congrArg (fun m => [Value.slice _ m _]) h) mk41 trv1 rfl rfl rfl rfl (by omega) ?_
   intro aq8 cq8
   refine asS rfl rfl rfl ?_
   refine rNil ?_
   refine qSeq rfl ?_
   refine hReg (sq 0 (sq 1 (sq 2 sz))) (by kernel_rfl) ?_
   refine mvI rfl rfl rfl ?_
   refine add rfl rfl rfl rfl (by omega) ?_
   refine asI rfl rfl rfl ?_
   refine rNil ?_
   rw [show Math.mapR (Math.hcCell ag i) j = Math.hcRow kk.toNat ag i from by unfold Math.hcRow; congr 1; omega, show Math.mapR (fun b => Math.order (i : Int) (b : Int)) j = Math.hcWin kk.toNat i from by unfold Math.hcWin; congr 1; omega, show Math.hcW kk.toNat ag i ++ [Math.hcRow kk.toNat ag i] = Math.hcW kk.toNat ag (i + 1) from Math.mapR_snoc _ _, show Math.hcV kk.toNat i ++ [Math.hcWin kk.toNat i] = Math.hcV kk.toNat (i + 1) from Math.mapR_snoc _ _]
   exact qNext rfl ((i + 1, q + 1, ((aq7, cq7), (hset hd.2 (Math.hcW kk.toNat ag i).length (h3.1, h3.2))), ((aq8, cq8), (hset he.2 (Math.hcV kk.toNat i).length (h4.1, h4.2))))) (by dsimp only; omega) ⟨by dsimp only; omega, by dsimp only; omega⟩ ⟨rfl, rfl, rfl, rfl, rfl, rfl, rfl, trivial⟩ (fun _ h => h.pick [0, 1, 2, 2])
 ·
  replace c1 : ¬ ((i : Int) < kk) := c1
  refine hExit rfl ?_
  refine qSeq rfl ?_
  refine hSeq ?_
  refine hReg (sl 0 (sl 1 (sq 2 (sq 3 (sq 4 (sl 5 sz)))))) (by kernel_rfl) ?_
  refine ldAl Try.isAgg26 Try.sizeOf26 (cBs 3 rfl) trv rfl rfl rfl rfl ?_
  refine callS Try.call171 trv1 rfl rfl (fun w hs => spec_l21Tree_c _ nz cz _ _ w (Kn.drop (k := 4) kz w hs) (by first | omega | (have := Math.tree_len (by assumption : Math.isTree _ = true); omega)) (by first | assumption | exact (by assumption : _ ∧ Math.kidsB _).2 | exact Math.tree_kids (by assumption))) ?_
  rintro ⟨ay9, ny9, cy9, Hy9, y9⟩ hr9
  dsimp only at hr9
  subst y9
  refine rKnow (fun w hs => (show OwnR ndK 88 2 ay9 ny9 cy9 Hy9 z w from hs.at_ 0 rfl).1) (fun lenn15 => ?_)
  refine mvS rfl rfl rfl ?_
  refine mvS rfl rfl rfl ?_
  refine bld rfl rfl rfl (bld43_0_1_2 (.slice ay9 ny9 cy9) (.slice _ _ _) (.slice _ _ _) rfl rfl rfl) ?_
  refine stAl (vs := [.slice ay9 ny9 cy9, .slice hd.1.1 q hd.1.2, .slice he.1.1 q he.1.2]) 3 rfl Try.sizeOf43 trv rfl rfl rfl rfl rfl (by simp [Value.oneCell']) rfl ?_
  refine rNil ?_
  refine qSeq rfl ?_
  refine hRet ?_
  exact fun w hs => ⟨[_], ⟨⟨_, rfl, run_load_agg Try.isAgg43 Try.sizeOf43 rfl (cBs 3 rfl w hs)⟩, trivial⟩, ⟨(ay9, ny9, cy9, Hy9, z, hd.1.1, q, hd.1.2, hd.2, (Math.hcW kk.toNat ag i), he.1.1, q, he.1.2, he.2, (Math.hcV kk.toNat i)), rfl, ⟨rfl, by rw [show i = kk.toNat from by omega], by rw [show i = kk.toNat from by omega]⟩, hs.pick [0, 1, 0]⟩⟩
end Go.Proofs.Ytjengglpbdgmnaa
/- Contracts of bet trees of the program. Their conditions stand in each. -/
namespace Go.Proofs.Ytjengglpbdgmnaa
open Go Go.RowKit V
set_option linter.unusedVariables false
set_option linter.unusedSimpArgs false
set_option maxRecDepth 100000
end Go.Proofs.Ytjengglpbdgmnaa
/- Contracts of Kuhn's game. Their conditions stand in each. -/
namespace Go.Proofs.Ytjengglpbdgmnaa
open Go Go.RowKit V
set_option linter.unusedVariables false
set_option linter.unusedSimpArgs false
set_option maxRecDepth 100000
theorem spec_KuhnGame_c (w : World) :
  Calls Try.prog 59 #[] w (Ret fun v w' => ∃ x : Option Addr × Nat × Nat × (Nat → Hd) × List Nd × Option Addr × Nat × Nat × (Nat → Hd) × List (List Int) × Option Addr × Nat × Nat × (Nat → Hd) × List (List Int), v = .agg #[.slice x.1 x.2.1 x.2.2.1, .slice x.2.2.2.2.2.1 x.2.2.2.2.2.2.1 x.2.2.2.2.2.2.2.1, .slice x.2.2.2.2.2.2.2.2.2.2.1 x.2.2.2.2.2.2.2.2.2.2.2.1 x.2.2.2.2.2.2.2.2.2.2.2.2.1] ∧ (x.2.2.2.2.1 = (Math.betAt 1 1 0).1 ∧ x.2.2.2.2.2.2.2.2.2.1 = Math.hcW 3 false 3 ∧ x.2.2.2.2.2.2.2.2.2.2.2.2.2.2 = Math.hcV 3 3) ∧ Sep w none_ [OwnR ndK 88 2 x.1 x.2.1 x.2.2.1 x.2.2.2.1 x.2.2.2.2.1, OwnR maK 28 2 x.2.2.2.2.2.1 x.2.2.2.2.2.2.1 x.2.2.2.2.2.2.2.1 x.2.2.2.2.2.2.2.2.1 x.2.2.2.2.2.2.2.2.2.1, OwnR maK 28 2 x.2.2.2.2.2.2.2.2.2.2.1 x.2.2.2.2.2.2.2.2.2.2.2.1 x.2.2.2.2.2.2.2.2.2.2.2.2.1 x.2.2.2.2.2.2.2.2.2.2.2.2.2.1 x.2.2.2.2.2.2.2.2.2.2.2.2.2.2] w') := by
 refine fn (M := none_) (rs := [.cell 0 43]) Try.func59 rfl Try.ntmps59 rfl rfl (Sep.start _ _) ?_
 refine hSeq ?_
 refine hReg (sl 0 sz) (by kernel_rfl) ?_
 refine alc Try.zeroValue43 rfl trv1 rfl rfl (fun bka1 hbka1 => ?_)
 refine rNil ?_
 refine qSeq rfl ?_
 refine hSeq ?_
 refine hReg (sl 0 (sq 1 (sq 2 (sq 3 (sl 4 (sl 5 (sq 6 sz))))))) (by kernel_rfl) ?_
 refine callS Try.call131 trv1 rfl rfl (fun w hs => spec_BetTree_c _ _ _ w ) ?_
 rintro ⟨ay1, ny1, cy1, Hy1, y1, q1⟩ ⟨hr1a, hr1b⟩
 dsimp only at hr1a hr1b
 subst y1
 subst q1
 refine rKnow (fun w hs => (show OwnR ndK 88 2 ay1 ny1 cy1 Hy1 ((((Math.betAt (1 : Int) (1 : Int) (0 : Int)).1))) w from hs.at_ 0 rfl).1) (fun lenn2 => ?_)
 refine mv rfl rfl rfl ?_
 refine ext rfl rfl rfl rfl ?_
 refine ext rfl rfl rfl rfl ?_
 refine alc Try.zeroValue26 rfl trv1 rfl rfl (fun bka3 hbka3 => ?_)
 refine stAl (vs := [.slice ay1 ny1 cy1]) 0 rfl Try.sizeOf26 trv rfl rfl rfl rfl rfl (by simp [Value.oneCell']) rfl ?_
 refine asI rfl rfl rfl ?_
 refine rNil ?_
 refine qSeq rfl ?_
 refine hSeq ?_
 refine hReg (sl 0 (sl 1 (sl 2 sz))) (by kernel_rfl) ?_
 refine ldAl Try.isAgg26 Try.sizeOf26 (cBs 0 rfl) trv rfl rfl rfl rfl ?_
 refine callS Try.call128 trv1 rfl rfl (fun w hs => spec_l21HighCard_c _ ny1 cy1 _ _ _ _ w (OwnR.rd (hs.at_ 1 rfl) ndK.ok) (by have := Math.betAt_bd 1 1 0; omega) (Math.betAt_kids 1 1 0) (by omega)) ?_
 rintro ⟨ay2, ny2, cy2, Hy2, y2, ayw2, nyw2, cyw2, Hyw2, yw2, ayv2, nyv2, cyv2, Hyv2, yv2⟩ ⟨hr2a, hr2b, hr2c⟩
 dsimp only at hr2a hr2b hr2c
 subst y2
 subst yw2
 subst yv2
 refine rKnow (fun w hs => (show OwnR ndK 88 2 ay2 ny2 cy2 Hy2 (((((((Math.betAt (1 : Int) (1 : Int) (0 : Int)).1)))))) w from hs.at_ 0 rfl).1) (fun lenn4 => ?_)
 refine rKnow (fun w hs => (show OwnR maK 28 2 ayw2 nyw2 cyw2 Hyw2 (Math.hcW 3 false 3) w from hs.at_ 1 rfl).1) (fun lenn5 => ?_)
 refine rKnow (fun w hs => (show OwnR maK 28 2 ayv2 nyv2 cyv2 Hyv2 (Math.hcV 3 3) w from hs.at_ 2 rfl).1) (fun lenn6 => ?_)
 refine stAl (vs := [.slice ay2 ny2 cy2, .slice ayw2 nyw2 cyw2, .slice ayv2 nyv2 cyv2]) 5 rfl Try.sizeOf43 trv rfl rfl rfl rfl rfl (by simp [Value.oneCell']) rfl ?_
 refine rNil ?_
 refine qSeq rfl ?_
 refine hRet ?_
 exact fun w hs => ⟨[_], ⟨⟨_, rfl, run_load_agg Try.isAgg43 Try.sizeOf43 rfl (cBs 5 rfl w hs)⟩, trivial⟩, ⟨(ay2, ny2, cy2, Hy2, ((((((Math.betAt (1 : Int) (1 : Int) (0 : Int)).1))))), ayw2, nyw2, cyw2, Hyw2, (Math.hcW 3 false 3), ayv2, nyv2, cyv2, Hyv2, (Math.hcV 3 3)), rfl, ⟨rfl, rfl, rfl⟩, hs.pick [0, 0, 0]⟩⟩
end Go.Proofs.Ytjengglpbdgmnaa
