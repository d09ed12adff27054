/- The law FnExactTreeText returns true for all arguments. No condition but what the card ties. -/
import Derived.Test.YtgnfffdenbiipaaDoorZ4Tt
import Derived.Test.YtgnfffdenbiipaaDoorZ1Tt
import Derived.Test.YtgnfffdenbiipaaDoorZ2Tt
import Derived.Test.YtgnfffdenbiipaaDoorZ3Tt
import Derived.Test.YtgnfffdenbiipaaDoorRows
import Derived.Test.YtgnfffdenbiipaaDoorCards
import Derived.Test.YtgnfffdenbiipaaDoorTie
import Derived.SevenTiedAt
import Derived.LaidMore
import Derived.Lay
import Derived.Stop.Joined
namespace Go.Proofs.YtgnfffdenbiipaaDoor
open Go Go.RowKit V Go.ChangeShapes Go.WideShapes Go.ChangeAt
set_option linter.unusedVariables false
set_option linter.unusedSimpArgs false
set_option maxRecDepth 100000
theorem laws_FnExactTreeText_c (az : Option Addr) (nz : Nat) (cz : Nat) (Hz : Nat → Hd) (z : List Nd) (w : World) (rz : RdR ndK az nz Hz z w) (rtab : TabP w) :
  Calls Tryd.prog 3 #[.agg #[.slice az nz cz]] w (Ret fun v w' => v = .bool true ∧ Ext w w') := by
 have kz : Kn w none_ [] (RdR ndK az nz Hz z) := fun w' hs => rz.ext hs.upd
 have lz : z.length = nz := rz.1
 have mz : nz ≤ 9223372036854775807 := rz.2.1
 have ktab : Kn w none_ [] (TabP) := fun w' hs => rtab.ext hs.upd
 refine fn (M := none_) (rs := [.tmp 2]) Tryd.func3 rfl Tryd.ntmps3 rfl rfl (Sep.start _ _) ?_
 refine hSeq ?_
 refine hReg (sl 0 (sq 1 sz)) (by kernel_rfl) ?_
 refine box trv1 rfl rfl rfl rfl (fun bkb1 hbkb1 => ?_)
 refine asB rfl rfl rfl ?_
 refine rNil ?_
 refine qSeq rfl ?_
 refine hSeq ?_
 refine hReg (sq 0 sz) (by kernel_rfl) ?_
 refine asI rfl rfl rfl ?_
 refine rNil ?_
 refine qSeq rfl ?_
 refine hSeq ?_
 refine hReg (sl 0 (sq 1 (sl 2 (sq 3 sz)))) (by kernel_rfl) ?_
 refine ldAl Tryd.isAgg24 Tryd.sizeOf24 (cBs 0 rfl) trv rfl rfl rfl rfl ?_
 refine mvI rfl rfl rfl ?_
 refine callP (v := .int .i64 ((Math.cut (1048576 : Int) (Math.szK Math.chl z : Int)))) Tryd.call5 trv rfl rfl (fun w hs => laws_szTree_c _ nz cz _ _ _ w (Kn.drop (k := 1) kz w hs) (by omega)) ?_
 refine asI rfl rfl rfl ?_
 refine rNil ?_
 refine qSeq rfl ?_
 refine hSeq ?_
 refine hSeq ?_
 refine hReg (sq 0 (sq 1 sz)) (by kernel_rfl) ?_
 refine mvI rfl rfl rfl ?_
 refine lss rfl rfl rfl rfl ?_
 refine rNil ?_
 refine qSeq rfl ?_
 refine hIfD rfl (fun c1 => ?_) (fun c1 => ?_)
 ·
  replace c1 : (Math.cut (1048576 : Int) (Math.szK Math.chl z : Int)) < 0 := c1
  refine hSeq ?_
  refine hReg (sq 0 sz) (by kernel_rfl) ?_
  refine asB rfl rfl rfl ?_
  refine rNil ?_
  refine qSeq rfl ?_
  refine hRet ?_
  exact fun w hs => ⟨[.bool true], ⟨rfl, trivial⟩, ⟨by first | rfl | exact bD (by omega) | exact bT (by omega) | exact bF (by omega) | exact vI (by omega), hs.upd⟩⟩
 ·
  replace c1 : ¬ ((Math.cut (1048576 : Int) (Math.szK Math.chl z : Int)) < 0) := c1
  have hb : Math.szK Math.chl z ≤ 1048576 := by have := Math.cut_pos c1; omega
  have hf4 := Math.sumK_f4 z
  have hsz : Math.szK Math.chl z = z.length + Math.sumK Math.chl z := rfl
  refine hSkip ?_
  refine qSeq rfl ?_
  refine hSeq ?_
  refine hReg (sl 0 (sl 1 (sl 2 (sq 3 (sq 4 (sq 5 (sq 6 (sq 7 sz)))))))) (by kernel_rfl) ?_
  refine ldAl Tryd.isAgg24 Tryd.sizeOf24 (cBs 0 rfl) trv rfl rfl rfl rfl ?_
  refine callS Tryd.call7 trv1 rfl rfl (fun w hs => laws_toTree_c _ nz cz _ _ w (Kn.drop (k := 1) kz w hs) (by first | assumption | omega)) ?_
  rintro ⟨ay1, ny1, cy1, Hy1, y1⟩ hr1
  dsimp only at hr1
  subst y1
  refine rKnow (fun w hs => (show OwnR ndK 78 2 ay1 ny1 cy1 Hy1 z w from hs.at_ 0 rfl).1) (fun lenn2 => ?_)
  refine callP (v := .tuple #[sv ((Math.textAt z).1), .int .i64 ((Math.textAt z).2)]) Tryd.call6 trv rfl rfl (fun w hs => spec_TreeText_c _ ny1 cy1 _ _ w (OwnR.rd (hs.at_ 0 rfl) ndK.ok)) ?_
  refine mv rfl rfl rfl ?_
  refine ext rfl rfl rfl rfl ?_
  refine ext rfl rfl rfl rfl ?_
  refine asn (v := sv ((Math.textAt z).1)) rfl rfl rfl ?_
  refine asI rfl rfl rfl ?_
  refine rNil ?_
  refine qSeq rfl ?_
  refine hSeq ?_
  refine hReg (sl 0 (sl 1 (sl 2 (sl 3 sz)))) (by kernel_rfl) ?_
  refine ldAl Tryd.isAgg24 Tryd.sizeOf24 (cBs 1 rfl) trv rfl rfl rfl rfl ?_
  refine callS Tryd.call7 trv1 rfl rfl (fun w hs => laws_toTree_c _ nz cz _ _ w (Kn.drop (k := 2) kz w hs) (by first | assumption | omega)) ?_
  rintro ⟨ay2, ny2, cy2, Hy2, y2⟩ hr2
  dsimp only at hr2
  subst y2
  refine rKnow (fun w hs => (show OwnR ndK 78 2 ay2 ny2 cy2 Hy2 z w from hs.at_ 0 rfl).1) (fun lenn3 => ?_)
  refine alc Tryd.zeroValue30 rfl trv1 rfl rfl (fun bka4 hbka4 => ?_)
  refine stAl (vs := [.slice ay2 ny2 cy2]) 0 rfl Tryd.sizeOf30 trv rfl rfl rfl rfl rfl (by simp [Value.oneCell']) rfl ?_
  refine rNil ?_
  refine qSeq rfl ?_
  refine hSeq ?_
  refine hReg (sl 0 (sl 1 (sq 2 (sq 3 (sq 4 (sq 5 (sq 6 sz))))))) (by kernel_rfl) ?_
  refine ldAl Tryd.isAgg30 Tryd.sizeOf30 (cBs 0 rfl) trv rfl rfl rfl rfl ?_
  refine callP (v := .tuple #[sv ((Math.textAt z).1), .int .i64 ((Math.textAt z).2)]) Tryd.call8 trv rfl rfl (fun w hs => impl_TreeText_c _ ny2 cy2 _ _ w (OwnR.rd (hs.at_ 1 rfl) ndK.ok) (Kn.drop (k := 4) ktab w hs)) ?_
  refine mv rfl rfl rfl ?_
  refine ext rfl rfl rfl rfl ?_
  refine ext rfl rfl rfl rfl ?_
  refine asn (v := sv ((Math.textAt z).1)) rfl rfl rfl ?_
  refine asI rfl rfl rfl ?_
  refine rNil ?_
  refine qSeq rfl ?_
  refine hSeq ?_
  refine hSeq ?_
  refine hReg (sq 0 (sq 1 (sq 2 (sq 3 (sq 4 (sq 5 (sq 6 (sq 7 sz)))))))) (by kernel_rfl) ?_
  refine mv (v := sv ((Math.textAt z).1)) rfl rfl rfl ?_
  refine mv (v := sv ((Math.textAt z).1)) rfl rfl rfl ?_
  refine strNeq rfl rfl rfl rfl ?_
  refine mvB rfl rfl rfl ?_
  refine rBoolD (d := 30) rfl (fun g2 => ?_) (fun g2 => ?_)
  ·
   replace g2 : (Math.textAt z).1 ≠ (Math.textAt z).1 := g2
   exact absurd rfl g2
  ·
   replace g2 : ¬ ((Math.textAt z).1 ≠ (Math.textAt z).1) := g2
   refine mvI rfl rfl rfl ?_
   refine mvI rfl rfl rfl ?_
   refine neq rfl rfl rfl rfl ?_
   refine pickB rfl rfl rfl rfl ?_
   refine rNil ?_
   refine qSeq rfl ?_
   refine hIfD rfl (fun c3 => ?_) (fun c3 => ?_)
   ·
    replace c3 : (Math.textAt z).2 ≠ (Math.textAt z).2 := c3
    exact absurd rfl c3
   ·
    replace c3 : ¬ ((Math.textAt z).2 ≠ (Math.textAt z).2) := c3
    refine hSkip ?_
    refine qSeq rfl ?_
    refine hSeq ?_
    refine hSeq ?_
    refine hDraw (Ls := [blk bka4 30 [.slice ay2 ny2 cy2], blk bkb1 24 [.slice az nz cz]]) (by kernel_rfl) (sq 0 (sq 1 (sl 2 (sl 3 (sq 4 sz))))) (by kernel_rfl) (.cons_cons _ (.cons _ (.cons _ (.cons_cons _ .slnil)))) ?_
    refine ldAq Tryd.isAgg30 Tryd.sizeOf30 (cBs 0 rfl) rfl rfl rfl rfl ?_
    refine ldAq Tryd.isAgg24 Tryd.sizeOf24 (cBs 1 rfl) rfl rfl rfl rfl ?_
    refine callS Tryd.call7 (by exact (fun _ _ h => h.pick [1, 3])) rfl rfl (fun w hs => laws_toTree_c _ nz cz _ _ w (Kn.drop (k := 4) kz w hs) (by first | assumption | omega)) ?_
    rintro ⟨ay3, ny3, cy3, Hy3, y3⟩ hr3
    dsimp only at hr3
    subst y3
    refine rKnow (fun w hs => (show OwnR ndK 78 2 ay3 ny3 cy3 Hy3 z w from hs.at_ 0 rfl).1) (fun lenn5 => ?_)
    refine callP (v := .bool true) Tryd.call9 (fun _ h => h.pick [1, 3]) rfl rfl (fun w hs => laws_eqTree_c _ ny2 cy2 _ _ _ ny3 cy3 _ _ w (OwnR.rd (hs.at_ 2 rfl) ndK.ok) (OwnR.rd (hs.at_ 0 rfl) ndK.ok) (by first | rfl | assumption | (rw [heq]) | (simp only [*]))) ?_
    refine not rfl rfl rfl ?_
    refine rNil ?_
    refine qSeq rfl ?_
    refine hIfF rfl ?_
    refine hSkip ?_
    refine qSeq rfl ?_
    refine hSeq ?_
    refine hReg (sq 0 sz) (by kernel_rfl) ?_
    refine asB rfl rfl rfl ?_
    refine rNil ?_
    refine qSeq rfl ?_
    refine hRet ?_
    exact fun w hs => ⟨[.bool true], ⟨rfl, trivial⟩, ⟨by first | rfl | exact bD (by omega) | exact bT (by omega) | exact bF (by omega) | exact vI (by omega), hs.upd⟩⟩
set_option maxHeartbeats 2000000 in
theorem fnExactTreeText_lifted (os : Os) (started : os.Started) (H : Type) (enc : TypeId × Value → H) :
  ReturnsInHanded {} Tryd.checked os 3 .any (fun w args => (Rows.fnExactTreeTextSpec.pre enc Tryd.prog Tryd.f3 Rows.fnExactTreeTextRow.domain false w args ∧ laidMetH Tryd.prog Rows.fnExactTreeTextRow.laid w) ∧ sizedMet enc Tryd.prog Tryd.f3 (OpenSpec.ofChange Rows.fnExactTreeTextSpec) false w args) (Rows.fnExactTreeTextSpec.post enc Tryd.prog Tryd.f3 false true false false) := by
 refine returnsInHanded_of_change_and (C := Tryd.checked) (X := fun w _ => laidMetH Tryd.prog Rows.fnExactTreeTextRow.laid w) (fun _ _ _ hh h => h.of_heap hh) own started (by kernel_rfl) Tryd.func3
  (ChangeSpec.witness_shaped (enc := enc) (C := Tryd.checked) (os := os) (X := fun w _ => laidMetH Tryd.prog Rows.fnExactTreeTextRow.laid w) false (World.laidAll Tryd.prog os Rows.fnExactTreeTextRow.laid) #[.agg #[.slice none 0 0]] 8 (World.laidAll_os _ _ _)
   (World.shaped_of_ZipB (by kernel_rfl) (by kernel_rfl)) (by kernel_rfl) (by kernel_rfl) (by kernel_rfl)
   (by rw [MakeChecks.laidMetH_plain _ _ _ (by kernel_rfl)]; exact laidMet_laidAll _ (by kernel_rfl) (by kernel_rfl))) ?_
 intro W base args ds gs before hval0 hW hcnd _ hL _
 have hval : ∀ (j : Nat) t v, Tryd.f3.params[j]? = some t → args[j]? = some v → Value.okWide Tryd.prog W .any base t v := hval0
 have hW' := hW
 obtain ⟨p, q, hA0, hV, rfl, hfz, hnd⟩ := hW
 have hA : DataW.TrodAll enc Tryd.prog W 0 (fun _ => true) true Tryd.f3.params.toList args.toList ds p := hA0
 rw [Tryd.params3] at hA hval
 obtain ⟨v0, vs0, d0, ds0, p0, q0, hargs, rfl, rfl, h0, r0⟩ := trodAll_cons hA
 obtain ⟨rfl, rfl, rfl⟩ := trodAll_nil r0
 obtain rfl : args = #[v0] := by cases args; simp_all
 obtain ⟨rfl, rfl⟩ := trodVars_none hV
 obtain ⟨f0, g0⟩ := h0
 obtain ⟨cs0, rfl, _⟩ := okWide_struct Tryd.underlying24 (hval 0 24 v0 rfl rfl)
 obtain ⟨aq0_0, nq0_0, cq0_0, hq0_0, zq0_0, e0, rq0_0⟩ := inT24 g0
 obtain rfl : cs0 = #[.slice aq0_0 nq0_0 cq0_0] := by apply Array.ext'; exact e0
 rw [MakeChecks.laidMetH_plain _ _ _ (by kernel_rfl)] at hL
 have htab : TabP W := tab_of_laid hL
 refine (laws_FnExactTreeText_c aq0_0 nq0_0 cq0_0 hq0_0 zq0_0 W rq0_0 htab).mono fun e W' ⟨v, he, hv, hx⟩ => ?_
 subst he; subst hv
 exact ⟨_, rfl, law_post (tb := 4) hW' rfl rfl Tryd.underlying4 rfl rfl rfl (by kernel_rfl) hx⟩
theorem fnExactTreeText_said : Rows.FnExactTreeTextSaid :=
 OpenClaim.holds_of_wide 3 Tryd.f3 rfl rfl rfl rfl rfl rfl rfl ⟨rfl, rfl, rfl, rfl, rfl⟩ rfl rfl rfl rfl rfl (by kernel_rfl) Tryd.func3 (by kernel_rfl)
  (of_decide_eq_true (by kernel_rfl)) (by unfold Func.isWrapper; first | (rw [if_pos (by decide +kernel)]; kernel_rfl) | (rw [if_neg (by decide +kernel)]; exact ⟨rfl, rfl⟩))
  (fun os started H enc _ => fnExactTreeText_lifted os started H enc)
theorem fnExactTreeText_holds : Rows.FnExactTreeTextCardSaid :=
 Claim7.holds_tied_plain_at .later [] [.data, .data, .data] true (true, "6df84baad998520090038214298fc12f918dbe26b426e48e9a9dde4214fd7dfa") false fnExactTreeText_said (fun _ h => by cases h) (by kernel_rfl) (fun _ h => by cases h) fnExactTreeText_row_tie rfl ⟨rfl, rfl⟩ (by kernel_rfl) rfl
  (fun f fn hf hfn => by
   obtain rfl : f = 3 := Option.some.inj ((show Tryd.prog.funcNamed "loop.example/g00910/laws.FnExactTreeText" = some 3 by kernel_rfl).symm.trans hf) |>.symm
   obtain rfl : fn = Tryd.f3 := (Option.some.inj (Tryd.func3.symm.trans hfn)).symm
   exact ⟨by kernel_rfl, fun j t ht => by
    rw [Tryd.params3] at ht
    have hm : t ∈ [24] := by simpa using Array.mem_of_getElem? ht
    have hall : ([24].all fun u => !Tryd.prog.wantsStandIn u) = true := by kernel_rfl
    exact (show Tryd.prog.wantsStandIn t = false by simpa using List.all_eq_true.1 hall t hm)⟩)
  (by kernel_rfl)
#print axioms fnExactTreeText_holds
end Go.Proofs.YtgnfffdenbiipaaDoor
