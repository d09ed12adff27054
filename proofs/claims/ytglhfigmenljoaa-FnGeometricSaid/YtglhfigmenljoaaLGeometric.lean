/- The law FnGeometric returns true for all arguments. No condition. -/
import Derived.Test.YtglhfigmenljoaaEng4
import Derived.Test.YtglhfigmenljoaaFrame
import Derived.Test.YtglhfigmenljoaaEng6
import Derived.Test.YtglhfigmenljoaaEqs
import Derived.Test.YtglhfigmenljoaaMath
import Derived.Test.YtglhfigmenljoaaRat
import Derived.Test.YtglhfigmenljoaaOdds
import Derived.Test.YtglhfigmenljoaaGeo
import Derived.Test.YtglhfigmenljoaaSrc0
import Derived.Test.YtglhfigmenljoaaSrc
import Derived.Test.YtglhfigmenljoaaSrcO
import Derived.Test.YtglhfigmenljoaaRows
namespace Go.Proofs.Ytglhfigmenljoaa
open Go Go.RowKit V Go.ChangeShapes Go.WideShapes Go.ChangeAt
set_option linter.unusedVariables false
set_option linter.unusedSimpArgs false
set_option maxRecDepth 100000



theorem Geo_ok {pot stack streets n bad : Int} (h : Math.Geo pot stack streets (n, bad)) (hb : ¬ bad ≠ 0) : Math.inGeo pot stack streets ∧ Math.isGeo pot stack streets n := by
  rcases h with h | ⟨_, h⟩
  · exact ⟨h.1, h.2.1⟩
  · cases h; exact absurd (by decide) hb

theorem Geometric_w (ca : Option Addr) (bs : List Int) (cc : Nat) (w : World) (hc : CellsAt ca (bs.map (Value.int .u8)) w) (hb : ∀ n ∈ bs, (Lit.int .u8 n).wf = true) :
    Calls Try.prog 7 #[.slice ca bs.length cc] w (Ret fun v w' => v = .bool true ∧ Ext w w') := by
  refine fn (M := none_) (rs := [.tmp 2]) Try.func7 rfl Try.ntmps7 rfl rfl (Sep.start _ _) ?_
  refine hSeq ?_
  refine hReg (sq 0 sz) (by kernel_rfl) ?_
  refine asB rfl rfl rfl ?_
  refine rNil ?_
  refine qSeq rfl ?_
  refine hSeq ?_
  refine hSeq ?_
  refine hReg (sq 0 (sl 1 sz)) (by kernel_rfl) ?_
  refine mvS rfl rfl rfl ?_
  refine callP Try.call23 trv rfl rfl (fun w hs => big_c _ _ _ w) ?_
  refine rNil ?_
  refine qSeq rfl ?_
  refine hIfD rfl (fun c1 => ?_) (fun c1 => ?_)
  · -- c1T
    refine hSeq ?_
    refine hReg (sq 0 sz) (by kernel_rfl) ?_
    refine asB rfl rfl rfl ?_
    refine rNil ?_
    refine qSeq rfl ?_
    refine hRet ?_
    exact fun w hs => ⟨[.bool _], ⟨rfl, trivial⟩, ⟨by first | exact (bT (by omega)).symm | rfl, hs.upd⟩⟩
  · -- c1F
    have hok : okBytes bs := ⟨fun x hx => bounds_u8 (hb x hx), by omega⟩
    refine hSkip ?_
    refine qSeq rfl ?_
    refine hSeq ?_
    refine hReg (sq 0 (sl 1 (sq 2 (sq 3 (sq 4 (sq 5 (sq 6 (sq 7 (sq 8 sz))))))))) (by kernel_rfl) ?_
    refine mvS rfl rfl rfl ?_
    refine callV Try.call24 trv rfl rfl (fun w hs => DrawGeometricBet_c _ _ _ w (hc.ext hs.upd) hok) ?_
    rintro ⟨pot, stack, streets⟩ -
    refine mv rfl rfl rfl ?_
    refine ext rfl rfl rfl rfl ?_
    refine ext rfl rfl rfl rfl ?_
    refine ext rfl rfl rfl rfl ?_
    refine asI rfl rfl rfl ?_
    refine asI rfl rfl rfl ?_
    refine asI rfl rfl rfl ?_
    refine rNil ?_
    refine qSeq rfl ?_
    refine hSeq ?_
    refine hReg (sq 0 (sq 1 (sq 2 (sl 3 (sq 4 (sq 5 (sq 6 (sq 7 (sq 8 sz))))))))) (by kernel_rfl) ?_
    refine mvI rfl rfl rfl ?_
    refine mvI rfl rfl rfl ?_
    refine mvI rfl rfl rfl ?_
    refine callV Try.call15 trv rfl rfl (fun w hs => impl_GeometricBet_c _ _ _ w) ?_
    rintro ⟨n, bad⟩ hx
    refine mv rfl rfl rfl ?_
    refine ext rfl rfl rfl rfl ?_
    refine ext rfl rfl rfl rfl ?_
    refine asI rfl rfl rfl ?_
    refine asI rfl rfl rfl ?_
    refine rNil ?_
    refine qSeq rfl ?_
    refine hSeq ?_
    refine hReg (sq 0 (sq 1 (sq 2 (sl 3 (sq 4 (sq 5 (sq 6 (sq 7 (sq 8 sz))))))))) (by kernel_rfl) ?_
    refine mvI rfl rfl rfl ?_
    refine mvI rfl rfl rfl ?_
    refine mvI rfl rfl rfl ?_
    refine callV Try.call14 trv rfl rfl (fun w hs => spec_GeometricBet_c _ _ _ w) ?_
    rintro y hy
    obtain rfl := Math.Geo_one hx hy
    dsimp only
    refine mv rfl rfl rfl ?_
    refine ext rfl rfl rfl rfl ?_
    refine ext rfl rfl rfl rfl ?_
    refine asI rfl rfl rfl ?_
    refine asI rfl rfl rfl ?_
    refine rNil ?_
    refine qSeq rfl ?_
    refine hSeq ?_
    refine hSeq ?_
    refine hReg (sq 0 (sq 1 (sq 2 (sq 3 (sq 4 (sq 5 (sq 6 (sq 7 sz)))))))) (by kernel_rfl) ?_
    refine mvI rfl rfl rfl ?_
    refine mvI rfl rfl rfl ?_
    refine neq rfl rfl rfl rfl ?_
    refine mvB rfl rfl rfl ?_
    refine rBoolD (d := 40) rfl (fun g2 => ?_) (fun g2 => ?_)
    · -- g2T
      exact absurd rfl g2
    · -- g2F
      refine mvI rfl rfl rfl ?_
      refine mvI rfl rfl rfl ?_
      refine neq rfl rfl rfl rfl ?_
      refine pickB rfl rfl rfl rfl ?_
      refine rNil ?_
      refine qSeq rfl ?_
      refine hIfD rfl (fun c3 => ?_) (fun c3 => ?_)
      · -- c3T
        exact absurd rfl c3
      · -- c3F
        refine hSkip ?_
        refine qSeq rfl ?_
        refine hSeq ?_
        refine hSeq ?_
        refine hReg (sq 0 (sq 1 sz)) (by kernel_rfl) ?_
        refine mvI rfl rfl rfl ?_
        refine neq rfl rfl rfl rfl ?_
        refine rNil ?_
        refine qSeq rfl ?_
        refine hIfD rfl (fun c4 => ?_) (fun c4 => ?_)
        · -- c4T
          refine hSeq ?_
          refine hReg (sq 0 sz) (by kernel_rfl) ?_
          refine asB rfl rfl rfl ?_
          refine rNil ?_
          refine qSeq rfl ?_
          refine hRet ?_
          exact fun w hs => ⟨[.bool _], ⟨rfl, trivial⟩, ⟨by first | exact (bT (by omega)).symm | rfl, hs.upd⟩⟩
        · -- c4F
          obtain ⟨⟨hG1, hG2, hG3⟩, hG4, hG5, hG6, hG7⟩ := Geo_ok (pot := pot) (stack := stack) (streets := streets) (n := n) (bad := bad) hx c4
          have hn1 := Math.isGeo_pos hG2.1 ⟨hG4, hG5, hG6, hG7⟩
          refine hSkip ?_
          refine qSeq rfl ?_
          refine hSeq ?_
          refine hSeq ?_
          refine hReg (sq 0 sz) (by kernel_rfl) ?_
          refine asI rfl rfl rfl ?_
          refine rNil ?_
          refine qSeq rfl ?_
          refine hBlk ?_
          refine hLoop (α := Int) (fun k => 0 ≤ k ∧ k ≤ 2) (fun k => (2 - k).toNat) (fun k => []) (fun k => [(3, .int .i64 pot), (4, .int .i64 stack), (5, .int .i64 streets), (6, .int .i64 n), (10, .int .i64 k)]) 0 ⟨by decide, by decide⟩ (fun _ h => h) ⟨rfl, rfl, rfl, rfl, rfl, trivial⟩ ?_
          rintro k τ1 ⟨hk1, hk2⟩
          refine hSeq ?_
          refine hSeq ?_
          refine hReg (sq 0 (sq 1 sz)) (by kernel_rfl) ?_
          refine mvI rfl rfl rfl ?_
          refine lss rfl rfl rfl rfl ?_
          refine rNil ?_
          refine qSeq rfl ?_
          refine hIfD rfl (fun c5 => ?_) (fun c5 => ?_)
          · -- c5T
            refine hSkip ?_
            refine qSeq rfl ?_
            refine hSeq ?_
            refine hBlk ?_
            refine hSeq ?_
            refine hReg (sq 0 (sq 1 (sq 2 (sq 3 sz)))) (by kernel_rfl) ?_
            refine mvI rfl rfl rfl ?_
            refine mvI rfl rfl rfl ?_
            refine asI rfl rfl rfl ?_
            refine asI rfl rfl rfl ?_
            refine rNil ?_
            refine qSeq rfl ?_
            refine hSeq ?_
            refine hSeq ?_
            refine hReg (sq 0 sz) (by kernel_rfl) ?_
            refine asI rfl rfl rfl ?_
            refine rNil ?_
            refine qSeq rfl ?_
            refine hBlk ?_
            refine hLoop (α := Int × Int × Int) (fun x => (0 ≤ x.1 ∧ x.1 ≤ streets) ∧ 0 ≤ x.2.1 ∧ 0 ≤ x.2.2 ∧ x.2.1 + 2 * x.2.2 ≤ 30000 ∧ Math.left (streets - x.1).toNat x.2.1 x.2.2 (n - k) = Math.left streets.toNat pot stack (n - k)) (fun x => (streets - x.1).toNat) (fun x => []) (fun x => [(3, .int .i64 pot), (4, .int .i64 stack), (5, .int .i64 streets), (6, .int .i64 n), (10, .int .i64 k), (11, .int .i64 x.2.1), (12, .int .i64 x.2.2), (13, .int .i64 x.1)]) (0, pot, stack) ⟨⟨by dsimp only; omega, by dsimp only; omega⟩, by dsimp only; omega, by dsimp only; omega, by dsimp only; omega, by simp⟩ (fun _ h => h) ⟨rfl, rfl, rfl, rfl, rfl, rfl, rfl, rfl, trivial⟩ ?_
            rintro ⟨i, q, u⟩ τ2 ⟨⟨hi, hi2⟩, hq, hu, hqu, hl⟩
            dsimp only at hi hi2 hq hu hqu hl
            refine hRe [(3, .int .i64 pot), (4, .int .i64 stack), (5, .int .i64 streets), (6, .int .i64 n), (10, .int .i64 k), (11, .int .i64 q), (12, .int .i64 u), (13, .int .i64 i)] [] rfl rfl ?_
            have hbp := Math.bp_bd (b := n - k) ⟨by omega, by omega⟩ (p := q) (by omega)
            refine hSeq ?_
            refine hSeq ?_
            refine hReg (sq 0 (sq 1 (sq 2 sz))) (by kernel_rfl) ?_
            refine mvI rfl rfl rfl ?_
            refine mvI rfl rfl rfl ?_
            refine lss rfl rfl rfl rfl ?_
            refine rNil ?_
            refine qSeq rfl ?_
            refine hIfD rfl (fun c6 => ?_) (fun c6 => ?_)
            · -- c6T
              refine hSkip ?_
              refine qSeq rfl ?_
              refine hSeq ?_
              refine hBlk ?_
              refine hSeq ?_
              refine hReg (sq 0 (sq 1 (sq 2 (sq 3 (sq 4 (sq 5 (sq 6 (sq 7 (sq 8 (sq 9 sz)))))))))) (by kernel_rfl) ?_
              refine mvI rfl rfl rfl ?_
              refine mvI rfl rfl rfl ?_
              refine mvI rfl rfl rfl ?_
              refine sub rfl rfl rfl rfl (by omega) ?_
              refine mvI rfl rfl rfl ?_
              refine mul rfl rfl rfl rfl (by omega) ?_
              refine add rfl rfl rfl rfl (by omega) ?_
              refine quo rfl rfl rfl rfl (by omega) ?_
              refine min2 rfl rfl rfl rfl ?_
              refine asI rfl rfl rfl ?_
              refine rNil ?_
              refine qSeq rfl ?_
              refine hSeq ?_
              refine hReg (sq 0 (sq 1 (sq 2 (sq 3 (sq 4 sz))))) (by kernel_rfl) ?_
              refine mvI rfl rfl rfl ?_
              refine mvI rfl rfl rfl ?_
              refine mul rfl rfl rfl rfl (by omega) ?_
              refine add rfl rfl rfl rfl (by omega) ?_
              refine asI rfl rfl rfl ?_
              refine rNil ?_
              refine qSeq rfl ?_
              refine hReg (sq 0 (sq 1 (sq 2 (sq 3 sz)))) (by kernel_rfl) ?_
              refine mvI rfl rfl rfl ?_
              refine mvI rfl rfl rfl ?_
              refine sub rfl rfl rfl rfl (by omega) ?_
              refine asI rfl rfl rfl ?_
              refine rNil ?_
              refine qSeq rfl ?_
              refine hReg (sq 0 (sq 1 (sq 2 sz))) (by kernel_rfl) ?_
              refine mvI rfl rfl rfl ?_
              refine add rfl rfl rfl rfl (by omega) ?_
              refine asI rfl rfl rfl ?_
              refine rNil ?_
              have hst := Math.left_step (k := (streets - i).toNat) (p := q) (s := u) (b := n - k) (by omega)
              exact qNext rfl (i + 1, q + 2 * min u (((n - k) * q + 99) / 100), u - min u (((n - k) * q + 99) / 100)) (by dsimp only; omega) ⟨⟨by dsimp only; omega, by dsimp only; omega⟩, by dsimp only; omega, by dsimp only; omega, by dsimp only; omega, by dsimp only; rw [← hl, hst]; congr 1; omega⟩ ⟨rfl, rfl, rfl, rfl, rfl, rfl, rfl, rfl, trivial⟩ (fun _ h => h)
            · -- c6F
              have hfin : u = Math.left streets.toNat pot stack (n - k) := by rw [← hl, show (streets - i).toNat = 0 from by omega]; rfl
              have hiff : u = 0 ↔ k = 0 := ⟨fun h => (Classical.byContradiction fun hk => hG7 (n - k) (by omega) (by omega) (hfin.symm.trans h)), fun h => by rw [hfin, h, Int.sub_zero]; exact hG6⟩
              refine hExit rfl ?_
              refine qSeq rfl ?_
              refine hSeq ?_
              refine hReg (sq 0 (sq 1 (sq 2 (sq 3 (sq 4 sz))))) (by kernel_rfl) ?_
              refine mvI rfl rfl rfl ?_
              refine eql rfl rfl rfl rfl ?_
              refine mvI rfl rfl rfl ?_
              refine eql rfl rfl rfl rfl ?_
              refine neqB Try.underlying4 rfl rfl rfl rfl ?_
              refine rNil ?_
              refine qSeq rfl ?_
              refine hIfD rfl (fun c7 => ?_) (fun c7 => ?_)
              · -- c7T
                exact absurd (decide_eq_decide.2 hiff) c7
              · -- c7F
                refine hSkip ?_
                refine qSeq rfl ?_
                refine hReg (sq 0 (sq 1 (sq 2 sz))) (by kernel_rfl) ?_
                refine mvI rfl rfl rfl ?_
                refine add rfl rfl rfl rfl (by omega) ?_
                refine asI rfl rfl rfl ?_
                refine rNil ?_
                exact qNext rfl (k + 1) (by omega) ⟨by omega, by omega⟩ ⟨rfl, rfl, rfl, rfl, rfl, trivial⟩ (fun _ h => h)
          · -- c5F
            refine hExit rfl ?_
            refine qSeq rfl ?_
            refine hSeq ?_
            refine hReg (sq 0 (sq 1 (sq 2 sz))) (by kernel_rfl) ?_
            refine mvI rfl rfl rfl ?_
            refine gtr rfl rfl rfl rfl ?_
            refine asB rfl rfl rfl ?_
            refine rNil ?_
            refine qSeq rfl ?_
            refine hRet ?_
            exact fun w hs => ⟨[.bool _], ⟨rfl, trivial⟩, ⟨by first | exact (bT (by omega)).symm | rfl, hs.upd⟩⟩

theorem cells5 : Try.prog.cellsOf 5 = 1 := by kernel_rfl

theorem fnGeometric_lifted (os : Os) (started : os.Started) (H : Type) (enc : TypeId × Value → H) :
    ReturnsInHanded {} Try.checked os 7 .any (Rows.fnGeometricSpec.pre6 enc Try.prog Try.f7 Rows.fnGeometricRow.domain false) (Rows.fnGeometricSpec.post enc Try.prog Try.f7 false true false false) := by
  refine returnsInHanded_of_change (C := Try.checked) own started (by kernel_rfl) Try.func7
    (ChangeSpec.witness6 (enc := enc) (C := Try.checked) false ⟨#[], #[.slice none 0 0], []⟩ 8 (by kernel_rfl) (by kernel_rfl) (by kernel_rfl) (by kernel_rfl)) ?_
  intro W base args ds gs before hval0 hW hcnd _
  have hval : ∀ (j : Nat) t v, Try.f7.params[j]? = some t → args[j]? = some v → Value.okWide Try.prog W .any base t v := hval0
  have hW' := hW
  obtain ⟨p, q, hA0, hV, rfl, hfz, hnd⟩ := hW
  have hA : DataW.TrodAll enc Try.prog W 0 (fun _ => true) true Try.f7.params.toList args.toList ds p := hA0
  rw [Try.params7] at hA hval
  obtain ⟨v0, vs0, d0, ds0, p0, q0, hargs, rfl, rfl, h0, r0⟩ := trodAll_cons hA
  obtain ⟨rfl, rfl, rfl⟩ := trodAll_nil r0
  obtain rfl : args = #[v0] := by cases args; simp_all
  obtain ⟨rfl, rfl⟩ := trodVars_none hV
  obtain ⟨ca, bs, cc, rfl, hwf, hmax, hca⟩ := open_slice_ints Try.underlying31 Try.underlying5 cells5 (hval 0 31 v0 rfl rfl) h0
  refine (Geometric_w ca bs cc W hca hwf).mono fun e W' ⟨v, he, hv, hx⟩ => ?_
  subst he; subst hv
  exact ⟨_, rfl, law_post (tb := 4) hW' rfl rfl Try.underlying4 rfl rfl rfl (by kernel_rfl) hx⟩
theorem fnGeometric_holds : Rows.FnGeometricSaid :=
  OpenClaim.holds_of_wide 7 Try.f7 rfl rfl rfl rfl rfl rfl rfl ⟨rfl, rfl, rfl, rfl, rfl⟩ rfl rfl rfl rfl rfl (by kernel_rfl) Try.func7 (by kernel_rfl)
    (of_decide_eq_true (by kernel_rfl)) (by unfold Func.isWrapper; first | (rw [if_pos (by decide +kernel)]; kernel_rfl) | (rw [if_neg (by decide +kernel)]; exact ⟨rfl, rfl⟩))
    (fun os started H enc _ => fnGeometric_lifted os started H enc)
#print axioms fnGeometric_holds

end Go.Proofs.Ytglhfigmenljoaa
