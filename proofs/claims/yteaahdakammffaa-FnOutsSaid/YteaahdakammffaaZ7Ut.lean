/- Contracts of choices. Their conditions stand in each. -/
import Derived.Test.YteaahdakammffaaZ6Ut
import Derived.Test.YteaahdakammffaaZ1Ut
import Derived.Test.YteaahdakammffaaZ2Ut
import Derived.Test.YteaahdakammffaaZ3Ut
import Derived.Test.YteaahdakammffaaZ4Ut
import Derived.Test.YteaahdakammffaaRows
namespace Go.Proofs.Yteaahdakammffaa
open Go Go.RowKit V
set_option linter.unusedVariables false
set_option linter.unusedSimpArgs false
set_option maxRecDepth 100000
theorem mk117 : Mk Try.prog 117 3 1 8 [.int .i64 0] := ⟨Try.underlying117, Try.t3, _, by kernel_rfl, rfl, rfl, rfl, rfl, rfl, by decide, by decide⟩
theorem el117 : Elt Try.prog 117 1 := ⟨3, Try.runUnderlying117, Try.sizeOf3⟩
theorem impl_choices_c (n : Int) (k : Int) (w : World) :
  Calls Try.prog 112 #[.int .i64 n, .int .i64 k] w (Ret fun v w' => ∃ x : Nat × Nat, v = .func (.func 137) #[] #[.pointer (some ⟨x.1, 0, none⟩), .pointer (some ⟨x.2, 0, none⟩)] ∧ True ∧ Sep w none_ [blk x.1 3 [.int .i64 k], blk x.2 3 [.int .i64 n]] w') := by
 refine fn (M := none_) (rs := [.tmp 4]) Try.func112 rfl Try.ntmps112 rfl rfl (Sep.start _ _) ?_
 refine hSeq ?_
 refine hReg (sl 0 (sl 1 (sq 2 sz))) (by kernel_rfl) ?_
 refine box trv1 rfl rfl rfl rfl (fun bkb1 hbkb1 => ?_)
 refine box trv1 rfl rfl rfl rfl (fun bkb2 hbkb2 => ?_)
 refine asn rfl rfl rfl ?_
 refine rNil ?_
 refine qSeq rfl ?_
 refine hSeq ?_
 refine hReg (sq 0 (sq 1 sz)) (by kernel_rfl) ?_
 refine mkFn (vs := #[.pointer (some ⟨bkb2, 0, none⟩), .pointer (some ⟨bkb1, 0, none⟩)]) rfl rfl rfl ?_
 refine asn rfl rfl rfl ?_
 refine rNil ?_
 refine qSeq rfl ?_
 refine hRet ?_
 exact fun w hs => ⟨[.func (.func 137) #[] #[.pointer (some ⟨bkb2, 0, none⟩), .pointer (some ⟨bkb1, 0, none⟩)]], ⟨rfl, trivial⟩, ⟨(bkb2, bkb1), rfl, trivial, hs.pick [0, 0]⟩⟩
theorem impl_choices_1_it (bk : Nat) (k : Int) (bn : Nat) (n : Int) (w : World) (M : Nat → Prop) (kbk : Kn w M [] (RdB bk [.int .i64 k])) (kbn : Kn w M [] (RdB bn [.int .i64 n])) (hk : 0 ≤ k ∧ k ≤ 1000) (hn : 0 ≤ n ∧ n ≤ 1000) :
  IterC Try.prog 137 #[.pointer (some ⟨bk, 0, none⟩), .pointer (some ⟨bn, 0, none⟩)] (Cm.combs n.toNat k.toNat) w M := by
 intro l γ J Jx ok okx g0 hY h0 hs
 show Calls Try.prog 137 #[.func (.yield l) #[] #[], .pointer (some ⟨bk, 0, none⟩), .pointer (some ⟨bn, 0, none⟩)] w _
 refine fn (M := M) (rs := []) Try.func137 rfl Try.ntmps137 rfl rfl hs ?_
 refine hSeq ?_
 refine hReg (sl 0 (sl 1 (sq 2 sz))) (by kernel_rfl) ?_
 refine ldl Try.isAgg3 (cD (Kn.nil kbk) rfl) trv rfl rfl rfl ?_
 refine mksI ((k).toNat) mk117 trv1 rfl rfl rfl rfl (by omega) (by omega) (fun bkm1 hbkm1 => ?_)
 refine asS rfl rfl rfl ?_
 refine rNil ?_
 refine qSeq rfl ?_
 refine hSeq ?_
 refine hSeq ?_
 refine hReg (sq 0 (sq 1 (sq 2 sz))) (by kernel_rfl) ?_
 refine mvS rfl rfl rfl ?_
 refine lenS Try.runUnderlying117 rfl rfl rfl ?_
 refine mvI rfl rfl rfl ?_
 refine rNil ?_
 refine qSeq rfl ?_
 refine hBlk ?_
 refine hLoop (α := Nat) (fun i => i ≤ k.toNat) (fun i => k.toNat - i) (fun i => (OwnI 3 (some ⟨bkm1, 0, none⟩) ((k).toNat) ((k).toNat) (Cm.fillU k.toNat i) :: J g0)) (fun i => [(0, .func (.yield l) #[] #[]), (1, .pointer (some ⟨bk, 0, none⟩)), (2, .pointer (some ⟨bn, 0, none⟩)), (4, .slice (some ⟨bkm1, 0, none⟩) ((k).toNat) ((k).toNat)), (11, .int .i64 ((((k).toNat : Nat) : Int))), (12, .int .i64 (i : Int))]) 0 (Nat.zero_le _) (fun _ h => by rw [← Cm.fillU_zero]; exact h.pickT 1 [0]) ⟨rfl, rfl, rfl, rfl, rfl, rfl, trivial⟩ ?_
 rintro i τ1 hi
 refine hSeq ?_
 refine hReg (sq 0 sz) (by kernel_rfl) ?_
 refine lss rfl rfl rfl rfl ?_
 refine rNil ?_
 refine qSeq rfl ?_
 refine hSeq ?_
 refine hIfD rfl (fun c1 => ?_) (fun c1 => ?_)
 ·
  replace c1 : (i : Int) < (((k).toNat : Nat) : Int) := c1
  refine hSkip ?_
  refine qSeq rfl ?_
  refine hSeq ?_
  refine hBlk ?_
  refine hSeq ?_
  refine hReg (sq 0 (sq 1 sz)) (by kernel_rfl) ?_
  refine mvI rfl rfl rfl ?_
  refine asI rfl rfl rfl ?_
  refine rNil ?_
  refine qSeq rfl ?_
  refine hReg (sq 0 (sq 1 (sq 2 (sq 3 (sl 4 sz))))) (by kernel_rfl) ?_
  refine mvS rfl rfl rfl ?_
  refine mvI rfl rfl rfl ?_
  refine mvI rfl rfl rfl ?_
  refine oxI (zn := i) 0 rfl el117 rfl rfl rfl rfl (by omega) (by omega) rfl ?_
  intro gk1 hgk1
  refine stoI (off := i) (x := (i : Int)) 0 rfl hgk1 Try.sizeOf3 trv rfl rfl rfl rfl (by omega) ?_
  refine rNil ?_
  refine qSeq rfl ?_
  refine hReg (sq 0 (sq 1 sz)) (by kernel_rfl) ?_
  refine add rfl rfl rfl rfl (by omega) ?_
  refine mvI rfl rfl rfl ?_
  refine rNil ?_
  rw [Cm.fillU_step (by omega)]
  exact qNext rfl (i + 1) (by omega) (by omega) ⟨rfl, rfl, rfl, rfl, rfl, rfl, trivial⟩ (fun _ h => h.pickT 1 [0])
 ·
  replace c1 : ¬ ((i : Int) < (((k).toNat : Nat) : Int)) := c1
  refine hExit rfl ?_
  refine qSeq rfl ?_
  refine hSeq ?_
  refine hSeq ?_
  refine hReg (sl 0 (sl 1 (sq 2 sz))) (by kernel_rfl) ?_
  refine ldl Try.isAgg3 (cD (Kn.nil kbk) rfl) trv rfl rfl rfl ?_
  refine ldl Try.isAgg3 (cD (Kn.nil kbn) rfl) trv rfl rfl rfl ?_
  refine gtr rfl rfl rfl rfl ?_
  refine rNil ?_
  refine qSeq rfl ?_
  refine hIfD rfl (fun c2 => ?_) (fun c2 => ?_)
  ·
   replace c2 : n < k := c2
   refine hRet ?_
   exact fun w hs => ⟨[], trivial, .inl ⟨g0, by rw [Cm.combs_none (show n.toNat < k.toNat by omega)]; exact h0, hs.pickT 1 []⟩⟩
  ·
   replace c2 : ¬ (n < k) := c2
   rw [Cm.fillU_end (n := n.toNat) (show k.toNat ≤ i by omega) (by omega)]
   refine hSkip ?_
   refine qSeq rfl ?_
   refine hBlk ?_
   refine hLoop (α := Nat × γ) (fun x => x.1 < (Cm.combs n.toNat k.toNat).length ∧ ok ((Cm.combs n.toNat k.toNat).take x.1) x.2) (fun x => (Cm.combs n.toNat k.toNat).length - x.1) (fun x => (OwnI 3 (some ⟨bkm1, 0, none⟩) ((k).toNat) ((k).toNat) (((Cm.combs n.toNat k.toNat).getD x.1 [])) :: J x.2)) (fun x => [(0, .func (.yield l) #[] #[]), (1, .pointer (some ⟨bk, 0, none⟩)), (2, .pointer (some ⟨bn, 0, none⟩)), (4, .slice (some ⟨bkm1, 0, none⟩) ((k).toNat) ((k).toNat))]) (0, g0) ⟨Cm.combs_pos (show k.toNat ≤ n.toNat by omega), h0⟩ (fun _ h => h.pickT 1 [0]) ⟨rfl, rfl, rfl, rfl, trivial⟩ ?_
   rintro ⟨p, g⟩ τ2 ⟨hp, hok⟩
   dsimp only at hp hok
   refine hRe [(0, .func (.yield l) #[] #[]), (1, .pointer (some ⟨bk, 0, none⟩)), (2, .pointer (some ⟨bn, 0, none⟩)), (4, .slice (some ⟨bkm1, 0, none⟩) ((k).toNat) ((k).toNat))] (OwnI 3 (some ⟨bkm1, 0, none⟩) ((k).toNat) ((k).toNat) (((Cm.combs n.toNat k.toNat).getD p [])) :: J g) rfl rfl ?_
   have hcl := Cm.combs_len hp
   refine hSeq ?_
   refine hSeq ?_
   refine hReg (sq 0 (sq 1 (sl 2 sz))) (by kernel_rfl) ?_
   refine mv rfl rfl rfl ?_
   refine mvS rfl rfl rfl ?_
   refine callYY hY [OwnI 3 (some ⟨bkm1, 0, none⟩) ((k).toNat) ((k).toNat) (((Cm.combs n.toNat k.toNat).getD p []))] rfl hok (Cm.pre_pre hp) (fun φ hφ => Kn.nil hφ) ((Kn.at_ 0 rfl).imp fun _ h => OwnI.rd h) trv1 rfl rfl rfl rfl (fun g2 hy => ?_) (fun g2 hy => ?_)
   ·
    rw [Cm.pre_next hp] at hy
    refine rNil ?_
    refine qSeq rfl ?_
    refine hIfT rfl ?_
    refine hSkip ?_
    refine qSeq rfl ?_
    refine hBlk ?_
    refine hSeq ?_
    refine hReg (sl 0 (sq 1 (sq 2 sz))) (by kernel_rfl) ?_
    refine ldl Try.isAgg3 (cD (Kn.nil kbk) rfl) trv rfl rfl rfl ?_
    refine sub rfl rfl rfl rfl (by omega) ?_
    refine asI rfl rfl rfl ?_
    refine rNil ?_
    refine qSeq rfl ?_
    refine hSeq ?_
    refine hBlk ?_
    refine hLoop (α := Nat) (fun t => t ≤ k.toNat ∧ ∀ j, t ≤ j → j < k.toNat → ((Cm.combs n.toNat k.toNat).getD p []).getD j 0 = n - k + j) (fun t => t) (fun t => (OwnI 3 (some ⟨bkm1, 0, none⟩) ((k).toNat) ((k).toNat) (((Cm.combs n.toNat k.toNat).getD p [])) :: J g2)) (fun t => [(0, .func (.yield l) #[] #[]), (1, .pointer (some ⟨bk, 0, none⟩)), (2, .pointer (some ⟨bn, 0, none⟩)), (4, .slice (some ⟨bkm1, 0, none⟩) ((k).toNat) ((k).toNat)), (6, .int .i64 (((t : Int) - 1)))]) k.toNat ⟨Nat.le_refl _, fun j h1 h2 => by omega⟩ (fun _ h => h.pickT 1 [0]) (by repeat first | exact trivial | refine ⟨by first | rfl | exact vI (by omega), ?_⟩) ?_
    rintro t τ3 ⟨ht, hal⟩
    refine hSeq ?_
    refine hSeq ?_
    refine hDraw (Ls := [OwnI 3 (some ⟨bkm1, 0, none⟩) ((k).toNat) ((k).toNat) (((Cm.combs n.toNat k.toNat).getD p []))]) (by kernel_rfl) (sq 0 (sq 1 (sq 2 (sq 3 (sq 4 (sq 5 (sq 6 (sq 7 (sq 8 (sq 9 (sq 10 (sq 11 (sq 12 (sq 13 sz)))))))))))))) (by kernel_rfl) (.cons_cons _ (List.nil_sublist _)) ?_
    refine mvI rfl rfl rfl ?_
    refine geq rfl rfl rfl rfl ?_
    refine mvB rfl rfl rfl ?_
    refine rBoolD (d := 30) rfl (fun g3 => ?_) (fun g3 => ?_)
    ·
     replace g3 : 0 ≤ ((t : Int) - 1) := g3
     refine mvS rfl rfl rfl ?_
     refine mvI rfl rfl rfl ?_
     refine ixIq (zn := (((t : Int) - 1)).toNat) el117 ((Kn.at_ 0 rfl).imp fun _ h => OwnI.rd h) (fun _ h => h.pick [0]) rfl rfl rfl rfl (by omega) (by omega) rfl ?_
     intro ae2 e2
     refine ldq Try.isAgg3 (e2) rfl rfl rfl ?_
     refine ldq Try.isAgg3 (cD (Kn.drop (k := 1) kbn) rfl) rfl rfl rfl ?_
     refine ldq Try.isAgg3 (cD (Kn.drop (k := 1) kbk) rfl) rfl rfl rfl ?_
     refine sub rfl rfl rfl rfl (by omega) ?_
     refine mvI rfl rfl rfl ?_
     refine add rfl rfl rfl rfl (by omega) ?_
     refine eql rfl rfl rfl rfl ?_
     refine pickB rfl rfl rfl rfl ?_
     refine rNil ?_
     refine qSeq rfl ?_
     refine hIfD rfl (fun c4 => ?_) (fun c4 => ?_)
     ·
      replace c4 : ((((Cm.combs n.toNat k.toNat).getD p [])).getD ((((t : Int) - 1)).toNat) 0) = ((n - k) + ((t : Int) - 1)) := c4
      refine hSkip ?_
      refine qSeq rfl ?_
      refine hBlk ?_
      refine hReg (sq 0 (sq 1 (sq 2 sz))) (by kernel_rfl) ?_
      refine mvI rfl rfl rfl ?_
      refine sub rfl rfl rfl rfl (by omega) ?_
      refine asI rfl rfl rfl ?_
      refine rNil ?_
      exact qNext rfl (t - 1) (by omega) ⟨by omega, fun j h1 h2 => by rcases (show j = t - 1 ∨ t ≤ j by omega) with h | h <;> first | exact hal j h h2 | (subst h; have h0 := c4; rw [show ((t : Int) - 1).toNat = t - 1 by omega] at h0; omega)⟩ ((by repeat first | exact trivial | refine ⟨by first | rfl | exact vI (by omega), ?_⟩)) (fun _ h => h.pickT 1 [0])
     ·
      replace c4 : ¬ (((((Cm.combs n.toNat k.toNat).getD p [])).getD ((((t : Int) - 1)).toNat) 0) = ((n - k) + ((t : Int) - 1))) := c4
      refine hExit rfl ?_
      refine qSeq rfl ?_
      refine hSeq ?_
      refine hSeq ?_
      refine hReg (sq 0 (sq 1 sz)) (by kernel_rfl) ?_
      refine mvI rfl rfl rfl ?_
      refine lss rfl rfl rfl rfl ?_
      refine rNil ?_
      refine qSeq rfl ?_
      refine hIfD rfl (fun c5 => ?_) (fun c5 => ?_)
      ·
       replace c5 : ((t : Int) - 1) < 0 := c5
       exfalso; omega
      ·
       replace c5 : ¬ (((t : Int) - 1) < 0) := c5
       have hnx := Cm.combs_next hp (i := t - 1) (by omega) (by have h0 := c4; rw [show ((t : Int) - 1).toNat = t - 1 by omega] at h0; omega) (fun j h1 h2 => by have := hal j (by omega) h2; omega)
       have hbd := Cm.combs_bd hp (j := ((t : Int) - 1).toNat) (by omega)
       have hbd2 := Cm.combs_bd hp (j := t - 1) (by omega)
       refine hSkip ?_
       refine qSeq rfl ?_
       refine hSeq ?_
       refine hReg (sq 0 (sq 1 (sq 2 (sl 3 (sq 4 (sq 5 (sl 6 sz))))))) (by kernel_rfl) ?_
       refine mvS rfl rfl rfl ?_
       refine mvI rfl rfl rfl ?_
       refine ixIl (zn := (((t : Int) - 1)).toNat) el117 ((Kn.at_ 0 rfl).imp fun _ h => OwnI.rd h) rfl rfl rfl rfl (by omega) (by omega) rfl ?_
       intro ae3 e3
       refine ldl Try.isAgg3 (e3) trv rfl rfl rfl ?_
       refine add rfl rfl rfl rfl (by omega) ?_
       refine oxI (zn := (((t : Int) - 1)).toNat) 0 rfl el117 rfl rfl rfl rfl (by omega) (by omega) rfl ?_
       intro gk4 hgk4
       refine stoI (off := (((t : Int) - 1)).toNat) (x := (((((Cm.combs n.toNat k.toNat).getD p [])).getD ((((t : Int) - 1)).toNat) 0) + 1)) 0 rfl hgk4 Try.sizeOf3 trv rfl rfl rfl rfl (by omega) ?_
       refine rNil ?_
       refine qSeq rfl ?_
       refine hSeq ?_
       refine hReg (sq 0 (sq 1 (sq 2 sz))) (by kernel_rfl) ?_
       refine mvI rfl rfl rfl ?_
       refine add rfl rfl rfl rfl (by omega) ?_
       refine asI rfl rfl rfl ?_
       refine rNil ?_
       refine qSeq rfl ?_
       refine hBlk ?_
       refine hLoop (α := Nat) (fun q => t ≤ q ∧ q ≤ k.toNat) (fun q => k.toNat - q) (fun q => (OwnI 3 (some ⟨bkm1, 0, none⟩) ((k).toNat) ((k).toNat) ((Cm.mid ((Cm.combs n.toNat k.toNat).getD p []) (t - 1) q)) :: J g2)) (fun q => [(0, .func (.yield l) #[] #[]), (1, .pointer (some ⟨bk, 0, none⟩)), (2, .pointer (some ⟨bn, 0, none⟩)), (4, .slice (some ⟨bkm1, 0, none⟩) ((k).toNat) ((k).toNat)), (7, .int .i64 (q : Int))]) t ⟨by omega, by omega⟩ (fun _ h => by rw [show Cm.mid ((Cm.combs n.toNat k.toNat).getD p []) (t - 1) t = ((Cm.combs n.toNat k.toNat).getD p []).set ((t : Int) - 1).toNat (((Cm.combs n.toNat k.toNat).getD p []).getD ((t : Int) - 1).toNat 0 + 1) from by rw [show ((t : Int) - 1).toNat = t - 1 by omega, Cm.mid_first (by omega), show t - 1 + 1 = t by omega]]; exact h.pickT 1 [0]) (by repeat first | exact trivial | refine ⟨by first | rfl | exact vI (by omega), ?_⟩) ?_
       rintro q τ4 ⟨hq1, hq2⟩
       refine hSeq ?_
       refine hSeq ?_
       refine hReg (sq 0 (sl 1 (sq 2 sz))) (by kernel_rfl) ?_
       refine mvI rfl rfl rfl ?_
       refine ldl Try.isAgg3 (cD (Kn.nil kbk) rfl) trv rfl rfl rfl ?_
       refine lss rfl rfl rfl rfl ?_
       refine rNil ?_
       refine qSeq rfl ?_
       refine hIfD rfl (fun c6 => ?_) (fun c6 => ?_)
       ·
        replace c6 : (q : Int) < k := c6
        have hml := Cm.mid_len (c := ((Cm.combs n.toNat k.toNat).getD p [])) (i := t - 1) (q := q) (by omega) (by omega)
        have hmg := Cm.mid_get (c := ((Cm.combs n.toNat k.toNat).getD p [])) (i := t - 1) (q := q - 1) (by omega) (by omega)
        rw [show q - 1 + 1 = q by omega] at hmg
        rw [show q - 1 = ((q : Int) - 1).toNat by omega] at hmg
        refine hSkip ?_
        refine qSeq rfl ?_
        refine hSeq ?_
        refine hBlk ?_
        refine hReg (sq 0 (sq 1 (sq 2 (sq 3 (sq 4 (sq 5 (sl 6 (sq 7 (sq 8 (sl 9 sz)))))))))) (by kernel_rfl) ?_
        refine mvS rfl rfl rfl ?_
        refine mvI rfl rfl rfl ?_
        refine mvS rfl rfl rfl ?_
        refine mvI rfl rfl rfl ?_
        refine sub rfl rfl rfl rfl (by omega) ?_
        refine ixIl (zn := (((q : Int) - 1)).toNat) el117 ((Kn.at_ 0 rfl).imp fun _ h => OwnI.rd h) rfl rfl rfl rfl (by omega) (by omega) rfl ?_
        intro ae5 e5
        refine ldl Try.isAgg3 (e5) trv rfl rfl rfl ?_
        refine add rfl rfl rfl rfl (by omega) ?_
        refine oxI (zn := q) 0 rfl el117 rfl rfl rfl rfl (by omega) (by omega) rfl ?_
        intro gk6 hgk6
        refine stoI (off := q) (x := ((((Cm.mid ((Cm.combs n.toNat k.toNat).getD p []) (t - 1) q)).getD ((((q : Int) - 1)).toNat) 0) + 1)) 0 rfl hgk6 Try.sizeOf3 trv rfl rfl rfl rfl (by omega) ?_
        refine rNil ?_
        refine qSeq rfl ?_
        refine hReg (sq 0 (sq 1 (sq 2 sz))) (by kernel_rfl) ?_
        refine mvI rfl rfl rfl ?_
        refine add rfl rfl rfl rfl (by omega) ?_
        refine asI rfl rfl rfl ?_
        refine rNil ?_
        rw [show (Cm.mid ((Cm.combs n.toNat k.toNat).getD p []) (t - 1) q).set q ((Cm.mid ((Cm.combs n.toNat k.toNat).getD p []) (t - 1) q).getD ((q : Int) - 1).toNat 0 + 1) = Cm.mid ((Cm.combs n.toNat k.toNat).getD p []) (t - 1) (q + 1) from by rw [show ((q : Int) - 1).toNat = q - 1 by omega]; exact Cm.mid_step (by omega) (by omega)]
        exact qNext rfl (q + 1) (by omega) ⟨by omega, by omega⟩ ⟨rfl, rfl, rfl, rfl, rfl, trivial⟩ (fun _ h => h.pickT 1 [0])
       ·
        replace c6 : ¬ ((q : Int) < k) := c6
        rw [show Cm.mid ((Cm.combs n.toNat k.toNat).getD p []) (t - 1) q = (Cm.combs n.toNat k.toNat).getD (p + 1) [] from by rw [hnx.2, ← Cm.mid_end (q := k.toNat) (by omega), show q = k.toNat by omega]]
        refine hExit rfl ?_
        exact qNext rfl (p + 1, g2) (by dsimp only; omega) ⟨hnx.1, hy⟩ ⟨rfl, rfl, rfl, rfl, trivial⟩ (fun _ h => h.pickT 1 [0])
    ·
     replace g3 : ¬ (0 ≤ ((t : Int) - 1)) := g3
     refine rSkipQ rfl rfl ?_
     refine rSkipQ rfl rfl ?_
     refine rSkipQ rfl rfl ?_
     refine rSkipQ rfl rfl ?_
     refine rSkipQ rfl rfl ?_
     refine rSkipQ rfl rfl ?_
     refine rSkipQ rfl rfl ?_
     refine rSkipQ rfl rfl ?_
     refine rSkipQ rfl rfl ?_
     refine rSkipQ rfl rfl ?_
     refine pickB rfl rfl rfl rfl ?_
     refine rNil ?_
     refine qSeq rfl ?_
     refine hIfF rfl ?_
     refine hExit rfl ?_
     refine qSeq rfl ?_
     refine hSeq ?_
     refine hSeq ?_
     refine hReg (sq 0 (sq 1 sz)) (by kernel_rfl) ?_
     refine mvI rfl rfl rfl ?_
     refine lss rfl rfl rfl rfl ?_
     refine rNil ?_
     refine qSeq rfl ?_
     refine hIfD rfl (fun c7 => ?_) (fun c7 => ?_)
     ·
      replace c7 : ((t : Int) - 1) < 0 := c7
      refine hRet ?_
      exact fun w hs => ⟨[], trivial, .inl ⟨g2, by rw [List.take_of_length_le (Nat.le_of_eq (Cm.combs_last hp (fun j hj => by have := hal j (by omega) hj; omega)).symm)] at hy; exact hy, hs.pickT 1 []⟩⟩
     ·
      replace c7 : ¬ (((t : Int) - 1) < 0) := c7
      exfalso; omega
   ·
    refine rNil ?_
    refine qSeq rfl ?_
    refine hIfF rfl ?_
    refine hExit rfl ?_
    refine qRet rfl ?_
    exact fun w hs => ⟨[], trivial, .inr ⟨_, g2, Cm.pre_pre hp, hy, hs.pickT 1 []⟩⟩
end Go.Proofs.Yteaahdakammffaa
/- Contracts of hands. Their conditions stand in each. -/
namespace Go.Proofs.Yteaahdakammffaa
open Go Go.RowKit V
set_option linter.unusedVariables false
set_option linter.unusedSimpArgs false
set_option maxRecDepth 100000
theorem fl109_1 : Fld Try.prog 109 1 1 := by
 intro w ad; simp [Instr.fieldAt, Try.runUnderlying109, Instr.sureAddr, fieldPlace, Try.sizeOf2]
theorem fl109_2 : Fld Try.prog 109 2 2 := by
 intro w ad; simp [Instr.fieldAt, Try.runUnderlying109, Instr.sureAddr, fieldPlace, Try.sizeOf2]
theorem impl_chosen_c (az : Option Addr) (nz : Nat) (cz : Nat) (z : List Int) (ac : Option Addr) (nc : Nat) (cc : Nat) (c : List Int) (w : World) (rz : RdI az nz z w) (rc : RdI ac nc c w) (hc : ∀ j, j < c.length → 0 ≤ c.getD j 0 ∧ c.getD j 0 < z.length) (hcl : c.length ≤ 1000) :
  Calls Try.prog 158 #[.slice az nz cz, .slice ac nc cc] w (Ret fun v w' => ∃ x : Option Addr × Nat × Nat × List Int, v = .slice x.1 x.2.1 x.2.2.1 ∧ (x.2.2.2 = Hd.sel z c) ∧ Sep w none_ [OwnI 2 x.1 x.2.1 x.2.2.1 x.2.2.2] w') := by
 have kz : Kn w none_ [] (RdI az nz z) := fun w' hs => rz.ext hs.upd
 have lz : z.length = nz := rz.1
 have mz : nz ≤ 9223372036854775807 := rz.2.1
 have kc : Kn w none_ [] (RdI ac nc c) := fun w' hs => rc.ext hs.upd
 have lc : c.length = nc := rc.1
 have mc : nc ≤ 9223372036854775807 := rc.2.1
 refine fn (M := none_) (rs := [.tmp 4]) Try.func158 rfl Try.ntmps158 rfl rfl (Sep.start _ _) ?_
 refine hSeq ?_
 refine hReg (sq 0 sz) (by kernel_rfl) ?_
 refine asS rfl rfl rfl ?_
 refine rNil ?_
 refine qSeq rfl ?_
 refine hSeq ?_
 refine hReg (sq 0 (sq 1 (sl 2 (sq 3 sz)))) (by kernel_rfl) ?_
 refine mvS rfl rfl rfl ?_
 refine lenS Try.runUnderlying117 rfl rfl rfl ?_
 refine mksI nc mk23 trv1 rfl rfl rfl rfl (rfl) (by omega) (fun bkm1 hbkm1 => ?_)
 refine asS rfl rfl rfl ?_
 refine rNil ?_
 refine qSeq rfl ?_
 refine hSeq ?_
 refine hSeq ?_
 refine hReg (sq 0 (sq 1 (sq 2 sz))) (by kernel_rfl) ?_
 refine mvS rfl rfl rfl ?_
 refine lenS Try.runUnderlying117 rfl rfl rfl ?_
 refine mvI rfl rfl rfl ?_
 refine rNil ?_
 refine qSeq rfl ?_
 refine hBlk ?_
 refine hLoop (α := Nat) (fun i => i ≤ nc) (fun i => nc - i) (fun i => [OwnI 2 (some ⟨bkm1, 0, none⟩) nc nc (((Hd.sel z c).take i ++ List.replicate (nc - i) 0))]) (fun i => [(0, .slice az nz cz), (5, .slice (some ⟨bkm1, 0, none⟩) nc nc), (11, .slice ac nc cc), (12, .int .i64 (nc : Int)), (13, .int .i64 (i : Int))]) 0 (Nat.zero_le _) (fun _ h => by rw [← Math.fill_start]; exact h.pick [0]) ⟨rfl, rfl, rfl, rfl, rfl, trivial⟩ ?_
 rintro i τ1 hi
 refine hSeq ?_
 refine hReg (sq 0 sz) (by kernel_rfl) ?_
 refine lss rfl rfl rfl rfl ?_
 refine rNil ?_
 refine qSeq rfl ?_
 refine hSeq ?_
 refine hIfD rfl (fun c1 => ?_) (fun c1 => ?_)
 ·
  replace c1 : (i : Int) < (nc : Int) := c1
  have hci := hc i (by omega)
  refine hSkip ?_
  refine qSeq rfl ?_
  refine hSeq ?_
  refine hBlk ?_
  refine hSeq ?_
  refine hReg (sq 0 (sq 1 (sl 2 (sq 3 (sq 4 sz))))) (by kernel_rfl) ?_
  refine mvI rfl rfl rfl ?_
  refine ixIl (zn := i) el117 (Kn.drop (k := 1) kc) rfl rfl rfl rfl (by omega) (by omega) rfl ?_
  intro ae1 e1
  refine ldl Try.isAgg3 (e1) trv rfl rfl rfl ?_
  refine asI rfl rfl rfl ?_
  refine asI rfl rfl rfl ?_
  refine rNil ?_
  refine qSeq rfl ?_
  refine hReg (sq 0 (sq 1 (sq 2 (sq 3 (sq 4 (sl 5 (sq 6 (sl 7 sz)))))))) (by kernel_rfl) ?_
  refine mvS rfl rfl rfl ?_
  refine mvI rfl rfl rfl ?_
  refine mvS rfl rfl rfl ?_
  refine mvI rfl rfl rfl ?_
  refine ixIl (zn := ((c.getD i 0)).toNat) el23 (Kn.drop (k := 1) kz) rfl rfl rfl rfl (by omega) (by omega) rfl ?_
  intro ae2 e2
  refine ldl Try.isAgg2 (e2) trv rfl rfl rfl ?_
  refine oxI (zn := i) 0 rfl el23 rfl rfl rfl rfl (by omega) (by omega) rfl ?_
  intro gk3 hgk3
  refine stoI (off := i) (x := (z.getD (((c.getD i 0)).toNat) 0)) 0 rfl hgk3 Try.sizeOf2 trv rfl rfl rfl rfl (by omega) ?_
  refine rNil ?_
  refine qSeq rfl ?_
  refine hReg (sq 0 (sq 1 sz)) (by kernel_rfl) ?_
  refine add rfl rfl rfl rfl (by omega) ?_
  refine mvI rfl rfl rfl ?_
  refine rNil ?_
  rw [Hd.fill_put 0 0 _ (show (Hd.sel z c).length = nc by rw [Hd.sel_len]; exact lc) (show i < nc by omega) (Hd.sel_get (by omega))]
  exact qNext rfl (i + 1) (by omega) (by omega) ⟨rfl, rfl, rfl, rfl, rfl, trivial⟩ (fun _ h => h.pick [0])
 ·
  replace c1 : ¬ ((i : Int) < (nc : Int)) := c1
  rw [Math.fill_end 0 (show (Hd.sel z c).length = nc by rw [Hd.sel_len]; exact lc) (by omega)]
  refine hExit rfl ?_
  refine qSeq rfl ?_
  refine hSeq ?_
  refine hReg (sq 0 (sq 1 sz)) (by kernel_rfl) ?_
  refine mvS rfl rfl rfl ?_
  refine asS rfl rfl rfl ?_
  refine rNil ?_
  refine qSeq rfl ?_
  refine hRet ?_
  exact fun w hs => ⟨[.slice (some ⟨bkm1, 0, none⟩) nc nc], ⟨rfl, trivial⟩, ⟨((some ⟨bkm1, 0, none⟩), nc, nc, (Hd.sel z c)), rfl, rfl, hs.pick [0]⟩⟩
theorem impl_handsIn_c (ho : Int) (lea : Int) (mo : Int) (bo : Int) (hi : Bool) (lo : Int) (az : Option Addr) (nz : Nat) (cz : Nat) (z : List Int) (aq : Option Addr) (nq : Nat) (cq : Nat) (q : List Int) (w : World) (rz : RdI az nz z w) (rq : RdI aq nq q w) :
  Calls Try.prog 139 #[.agg #[.int .i64 ho, .int .i64 lea, .int .i64 mo, .int .i64 bo, .bool hi, .int .i64 lo], .slice az nz cz, .slice aq nq cq] w (Ret fun v w' => ∃ x : Nat × Nat × Nat, v = .func (.func 157) #[] #[.pointer (some ⟨x.1, 0, none⟩), .pointer (some ⟨x.2.1, 0, none⟩), .pointer (some ⟨x.2.2, 0, none⟩)] ∧ True ∧ Sep w none_ [blk x.1 109 [.int .i64 ho, .int .i64 lea, .int .i64 mo, .int .i64 bo, .bool hi, .int .i64 lo], blk x.2.1 23 [.slice az nz cz], blk x.2.2 23 [.slice aq nq cq]] w') := by
 have kz : Kn w none_ [] (RdI az nz z) := fun w' hs => rz.ext hs.upd
 have lz : z.length = nz := rz.1
 have mz : nz ≤ 9223372036854775807 := rz.2.1
 have kq : Kn w none_ [] (RdI aq nq q) := fun w' hs => rq.ext hs.upd
 have lq : q.length = nq := rq.1
 have mq : nq ≤ 9223372036854775807 := rq.2.1
 refine fn (M := none_) (rs := [.tmp 6]) Try.func139 rfl Try.ntmps139 rfl rfl (Sep.start _ _) ?_
 refine hSeq ?_
 refine hReg (sl 0 (sl 1 (sl 2 (sq 3 sz)))) (by kernel_rfl) ?_
 refine box trv1 rfl rfl rfl rfl (fun bkb1 hbkb1 => ?_)
 refine box trv1 rfl rfl rfl rfl (fun bkb2 hbkb2 => ?_)
 refine box trv1 rfl rfl rfl rfl (fun bkb3 hbkb3 => ?_)
 refine asn rfl rfl rfl ?_
 refine rNil ?_
 refine qSeq rfl ?_
 refine hSeq ?_
 refine hReg (sq 0 (sq 1 sz)) (by kernel_rfl) ?_
 refine mkFn (vs := #[.pointer (some ⟨bkb1, 0, none⟩), .pointer (some ⟨bkb2, 0, none⟩), .pointer (some ⟨bkb3, 0, none⟩)]) rfl rfl rfl ?_
 refine asn rfl rfl rfl ?_
 refine rNil ?_
 refine qSeq rfl ?_
 refine hRet ?_
 exact fun w hs => ⟨[.func (.func 157) #[] #[.pointer (some ⟨bkb1, 0, none⟩), .pointer (some ⟨bkb2, 0, none⟩), .pointer (some ⟨bkb3, 0, none⟩)]], ⟨rfl, trivial⟩, ⟨(bkb1, bkb2, bkb3), rfl, trivial, hs.pick [2, 1, 0]⟩⟩
theorem impl_handsIn_1_it (bv : Nat) (ho : Int) (bo : Int) (hi : Bool) (lo : Int) (bh : Nat) (az : Option Addr) (nz : Nat) (cz : Nat) (z : List Int) (bb : Nat) (aq : Option Addr) (nq : Nat) (cq : Nat) (q : List Int) (w : World) (M : Nat → Prop) (kbv : Kn w M [] (RdB bv [.int .i64 ho, .int .i64 2, .int .i64 2, .int .i64 bo, .bool hi, .int .i64 lo])) (kbh : Kn w M [] (RdB bh [.slice az nz cz])) (kz : Kn w M [] (RdI az nz z)) (kbb : Kn w M [] (RdB bb [.slice aq nq cq])) (kq : Kn w M [] (RdI aq nq q)) (hz : z.length ≤ 1000) (hq : q.length ≤ 1000) :
  IterC Try.prog 157 #[.pointer (some ⟨bv, 0, none⟩), .pointer (some ⟨bh, 0, none⟩), .pointer (some ⟨bb, 0, none⟩)] (Hd.hands z q) w M := by
 intro l γ J Jx ok okx g0 hY h0 hs
 have lz : z.length = nz := (kz _ (Sep.pick [] hs)).1
 have mz : nz ≤ 9223372036854775807 := (kz _ (Sep.pick [] hs)).2.1
 have lq : q.length = nq := (kq _ (Sep.pick [] hs)).1
 have mq : nq ≤ 9223372036854775807 := (kq _ (Sep.pick [] hs)).2.1
 show Calls Try.prog 157 #[.func (.yield l) #[] #[], .pointer (some ⟨bv, 0, none⟩), .pointer (some ⟨bh, 0, none⟩), .pointer (some ⟨bb, 0, none⟩)] w _
 refine fn (M := M) (rs := []) Try.func157 rfl Try.ntmps157 rfl rfl hs ?_
 refine hSeq ?_
 refine hReg (sl 0 sz) (by kernel_rfl) ?_
 refine box trv1 rfl rfl rfl rfl (fun bkb1 hbkb1 => ?_)
 refine rNil ?_
 refine qSeq rfl ?_
 refine hSeq ?_
 refine hReg (sq 0 (sl 1 (sl 2 (sl 3 sz)))) (by kernel_rfl) ?_
 refine fld fl109_1 rfl rfl rfl ?_
 refine ldl Try.isAgg2 (cD (Kn.nil kbv) rfl) trv rfl rfl rfl ?_
 refine alc Try.zeroValue2 rfl trv1 rfl rfl (fun bka2 hbka2 => ?_)
 refine stl (v := .int .i64 _) 0 rfl Try.sizeOf2 trv rfl rfl rfl rfl rfl (Nat.le_of_ble_eq_true rfl) ?_
 refine rNil ?_
 refine qSeq rfl ?_
 refine hBlk ?_
 refine hLoop2 ?_
 refine hSeq ?_
 refine hSeq ?_
 refine hReg (sl 0 (sq 1 (sl 2 (sq 3 sz)))) (by kernel_rfl) ?_
 refine ldl Try.isAgg2 (cB 0 rfl rfl) trv rfl rfl rfl ?_
 refine fld fl109_2 rfl rfl rfl ?_
 refine ldl Try.isAgg2 (cD (Kn.nil kbv) rfl) trv rfl rfl rfl ?_
 refine leq rfl rfl rfl rfl ?_
 refine rNil ?_
 refine qSeq rfl ?_
 refine hIfT rfl ?_
 refine hSkip ?_
 refine qSeq rfl ?_
 refine hSeq ?_
 refine hBlk ?_
 refine hSeq ?_
 refine hReg (sl 0 (sq 1 (sl 2 (sl 3 sz)))) (by kernel_rfl) ?_
 refine ldl Try.isAgg23 (cD (Kn.nil kbh) rfl) trv rfl rfl rfl ?_
 refine lenS Try.runUnderlying23 rfl rfl rfl ?_
 refine ldl Try.isAgg2 (cB 0 rfl rfl) trv rfl rfl rfl ?_
 refine callS Try.call112 trv1 rfl rfl (fun w hs => impl_choices_c _ _ w ) ?_
 rintro ⟨bk1, bn1⟩ hr1
 refine rPieces (L' := (blk bk1 3 [.int .i64 (2 : Int)] :: blk bn1 3 [.int .i64 (nz : Int)] :: blk bka2 2 [.int .i64 2] :: blk bkb1 79 [.func (.yield l) #[] #[]] :: J g0)) (fun _ h => h) ?_
 refine rVal (v' := .func (.func 137) #[] #[.pointer (some ⟨bk1, 0, none⟩), .pointer (some ⟨bn1, 0, none⟩)]) rfl ?_
 refine rNil ?_
 refine qSeq rfl ?_
 refine hBlk ?_
 refine hRange (γ := γ) (gf := 137) (Cm.combs nz 2) (fun g => (J g)) (fun g => (Jx g)) (fun pre g => ok (Hd.handsP z q pre) g) (fun pre g => ∃ pr, pr <+: Hd.hands z q ∧ okx pr g) g0 [blk bk1 3 [.int .i64 (2 : Int)], blk bn1 3 [.int .i64 (nz : Int)], blk bka2 2 [.int .i64 2], blk bkb1 79 [.func (.yield l) #[] #[]]] (by decide) rfl Try.call137 (fun _ h => h.pickT 4 [0, 0, 0, 0]) h0 (fun w M1 hk => impl_choices_1_it bk1 (2 : Int) bn1 (nz : Int) w M1 (hk _ ((Kn.at_ 0 rfl).imp fun _ h => RdB.of h)) (hk _ ((Kn.at_ 1 rfl).imp fun _ h => RdB.of h)) (by omega) (by omega)) ?_ ?_ ?_
 ·
  rintro l1 rc1 hrc1 pre1 xs1 g ax1 nx1 cx1 wR1 MR1 hok1 hpre1 hk1 hrd1
  have f1 := hk1 _ (Kn.nil kbv)
  have f2 := hk1 _ (Kn.nil kbh)
  have f3 := hk1 _ (Kn.nil kz)
  have f4 := hk1 _ (Kn.nil kbb)
  have f5 := hk1 _ (Kn.nil kq)
  have f6 := hk1 _ ((Kn.at_ 3 rfl).imp fun _ h => RdB.of (bk := bkb1) (e := 79) (cs := [.func (.yield l) #[] #[]]) h)
  have f7 := hk1 _ ((Kn.at_ 2 rfl).imp fun _ h => RdB.of (bk := bka2) (e := 2) (cs := [.int .i64 2]) h)
  have f8 := hk1 _ ((Kn.at_ 0 rfl).imp fun _ h => RdB.of (bk := bk1) (e := 3) (cs := [.int .i64 (2 : Int)]) h)
  have f9 := hk1 _ ((Kn.at_ 1 rfl).imp fun _ h => RdB.of (bk := bn1) (e := 3) (cs := [.int .i64 (nz : Int)]) h)
  have hc1 := Hd.combs_ix lz hpre1
  have hl1 := (Hd.combs_up (Hd.pre_mem hpre1)).2.2
  have hs1 := Hd.sel_len z xs1
  refine hReg (sl 0 (sl 1 sz)) (by kernel_rfl) ?_
  refine alc Try.zeroValue117 rfl trv1 rfl rfl (fun bka5 hbka5 => ?_)
  refine stl (v := .slice _ _ _) 0 rfl Try.sizeOf117 trv rfl rfl rfl rfl rfl (Nat.le_of_ble_eq_true rfl) ?_
  refine rNil ?_
  refine qPieces (fun _ h => h.pickT 2 [1, 0]) ?_
  refine qAsn rfl hrc1 rfl ?_
  refine hBlk ?_
  refine hSeq ?_
  refine hReg (sl 0 (sq 1 (sl 2 (sq 3 (sl 4 sz))))) (by kernel_rfl) ?_
  refine ldl Try.isAgg23 (cD (Kn.nil f4) rfl) trv rfl rfl rfl ?_
  refine lenS Try.runUnderlying23 rfl rfl rfl ?_
  refine ldl Try.isAgg2 (cD (Kn.nil f7) rfl) trv rfl rfl rfl ?_
  refine sub rfl rfl rfl rfl (by omega) ?_
  refine callS Try.call112 trv1 rfl rfl (fun w hs => impl_choices_c _ _ w ) ?_
  rintro ⟨bk2, bn2⟩ hr2
  refine rPieces (L' := (blk bk2 3 [.int .i64 (3 : Int)] :: blk bn2 3 [.int .i64 (nq : Int)] :: ob l1 (rc1 .busy none) :: blk bka5 117 [.slice ax1 nx1 cx1] :: J g)) (fun _ h => h) ?_
  refine rVal (v' := .func (.func 137) #[] #[.pointer (some ⟨bk2, 0, none⟩), .pointer (some ⟨bn2, 0, none⟩)]) rfl ?_
  refine rNil ?_
  refine qSeq rfl ?_
  refine hBlk ?_
  obtain ⟨r0_1, hr0_1⟩ := hrc1.loop
  refine hRangeN (r0 := r0_1) (γ := γ) (gf := 137) (Cm.combs nq 3) (fun g => (J g)) (fun g => (Jx g)) (fun pre g => ok (Hd.handsP z q pre1 ++ pre.map (fun t => Hd.sel z xs1 ++ Hd.sel q t)) g) (fun pre g => ∃ pr, pr <+: Hd.hands z q ∧ okx pr g) g [blk bk2 3 [.int .i64 (3 : Int)], blk bn2 3 [.int .i64 (nq : Int)], ob l1 (rc1 .busy none), blk bka5 117 [.slice ax1 nx1 cx1]] (by rw [← hr0_1]; exact Kn.at_ 2 rfl) (by decide) rfl Try.call137 (fun _ h => h.pickT 4 [0, 0, 0, 0]) (by rw [List.map_nil, List.append_nil]; exact hok1) (fun w M1 hk => impl_choices_1_it bk2 (3 : Int) bn2 (nq : Int) w M1 (hk _ ((Kn.at_ 0 rfl).imp fun _ h => RdB.of h)) (hk _ ((Kn.at_ 1 rfl).imp fun _ h => RdB.of h)) (by omega) (by omega)) ?_ ?_ ?_
  ·
   rintro l2 rc2 hrc2 pre2 xs2 g ax2 nx2 cx2 wR2 MR2 hok2 hpre2 hk2 hrd2
   have f10 := hk2 _ (Kn.nil f1)
   have f11 := hk2 _ (Kn.nil f2)
   have f12 := hk2 _ (Kn.nil f3)
   have f13 := hk2 _ (Kn.nil f4)
   have f14 := hk2 _ (Kn.nil f5)
   have f15 := hk2 _ (Kn.nil f6)
   have f16 := hk2 _ (Kn.nil f7)
   have f17 := hk2 _ (Kn.nil f8)
   have f18 := hk2 _ (Kn.nil f9)
   have f19 := hk2 _ (Kn.nil hrd1)
   have f20 := hk2 _ ((Kn.at_ 3 rfl).imp fun _ h => RdB.of (bk := bka5) (e := 117) (cs := [.slice ax1 nx1 cx1]) h)
   have f21 := hk2 _ ((Kn.at_ 0 rfl).imp fun _ h => RdB.of (bk := bk2) (e := 3) (cs := [.int .i64 (3 : Int)]) h)
   have f22 := hk2 _ ((Kn.at_ 1 rfl).imp fun _ h => RdB.of (bk := bn2) (e := 3) (cs := [.int .i64 (nq : Int)]) h)
   have hc2 := Hd.combs_ix lq hpre2
   have hl2 := (Hd.combs_up (Hd.pre_mem hpre2)).2.2
   have hs2 := Hd.sel_len q xs2
   refine hReg (sq 0 sz) (by kernel_rfl) ?_
   refine asS rfl rfl rfl ?_
   refine rNil ?_
   refine qAsn rfl hrc2 rfl ?_
   refine hBlk ?_
   refine hSeq ?_
   refine hDraw (Ls := []) (by kernel_rfl) (sq 0 (sq 1 (sq 2 (sq 4 (sq 5 (sl 3 (sl 6 (sl 7 (sl 8 (sq 9 sz)))))))))) (by kernel_rfl) (.cons _ (List.nil_sublist _)) ?_
   refine ldq Try.isAgg79 (cD (f15) rfl) rfl rfl rfl ?_
   refine ldq Try.isAgg23 (cD (f11) rfl) rfl rfl rfl ?_
   refine ldq Try.isAgg117 (cD (f20) rfl) rfl rfl rfl ?_
   refine ldq Try.isAgg23 (cD (f13) rfl) rfl rfl rfl ?_
   refine mvS rfl rfl rfl ?_
   refine callS Try.call158 (by exact (fun _ _ h => h.pick [])) rfl rfl (fun w hs => impl_chosen_c _ nz cz _ _ nx1 cx1 _ w (Kn.nil f12 w hs) (Kn.nil f19 w hs) (by assumption) (by omega)) ?_
   rintro ⟨ay3, ny3, cy3, y3⟩ hr3
   dsimp only at hr3
   subst y3
   refine rPieces (L' := (OwnI 2 ay3 ny3 cy3 (Hd.sel z xs1) :: ob l2 (rc2 .busy none) :: J g)) (fun _ h => h) ?_
   refine rKnow (fun w hs => (show OwnI 2 ay3 ny3 cy3 (Hd.sel z xs1) w from hs.at_ 0 rfl).lenz) (fun lenn8 => ?_)
   refine rVal (v' := .slice ay3 ny3 cy3) rfl ?_
   refine callS Try.call158 (by exact (fun _ _ h => h.pick [])) rfl rfl (fun w hs => impl_chosen_c _ nq cq _ _ nx2 cx2 _ w (Kn.nil f14 w hs) (Kn.nil hrd2 w hs) (by assumption) (by omega)) ?_
   rintro ⟨ay4, ny4, cy4, y4⟩ hr4
   dsimp only at hr4
   subst y4
   refine rPieces (L' := (OwnI 2 ay4 ny4 cy4 (Hd.sel q xs2) :: OwnI 2 ay3 ny3 cy3 (Hd.sel z xs1) :: ob l2 (rc2 .busy none) :: J g)) (fun _ h => h) ?_
   refine rKnow (fun w hs => (show OwnI 2 ay4 ny4 cy4 (Hd.sel q xs2) w from hs.at_ 0 rfl).lenz) (fun lenn9 => ?_)
   refine rVal (v' := .slice ay4 ny4 cy4) rfl ?_
   refine aplL (N := ny3) (ys := (Hd.sel q xs2)) 1 rfl ((Kn.at_ 0 rfl).imp fun _ h => OwnI.rd h) mk23 (fun _ _ h => h.pick []) rfl rfl rfl rfl (by omega) ?_
   intro aq5 cq5
   refine callYY hY [OwnI 2 ay4 ny4 cy4 (Hd.sel q xs2), OwnI 2 aq5 (ny3 + ny4) cq5 (((Hd.sel z xs1) ++ (Hd.sel q xs2))), ob l2 (rc2 .busy none)] rfl hok2 (Hd.hands_pre' lz lq rfl hpre1 hpre2) (fun φ hφ => Kn.nil (hk2 _ (Kn.nil (hk1 _ (Kn.nil hφ))))) ((Kn.at_ 1 rfl).imp fun _ h => OwnI.rd h) (fun _ _ h => h.pick []) rfl rfl rfl rfl (fun g2 hy => ?_) (fun g2 hy => ?_)
   ·
    refine not rfl rfl rfl ?_
    refine rNil ?_
    refine qSeq rfl ?_
    refine hIfF rfl ?_
    refine hSkip ?_
    exact qRnd rfl hrc2 g2 (by rw [List.map_append, ← List.append_assoc]; exact hy) (fun _ h => h.pickT 3 [2])
   ·
    refine not rfl rfl rfl ?_
    refine rNil ?_
    refine qSeq rfl ?_
    refine hIfT rfl ?_
    exact hRndR2 (fun _ h => h) hrc2 g2 (by exact ⟨_, Hd.hands_pre' lz lq rfl hpre1 hpre2, hy⟩) (fun _ h => h.pickT 3 [2])
  ·
   rintro g hend2
   exact qRnd rfl hrc1 g (by rw [Hd.handsP_snoc, lq]; exact hend2) (fun _ h => h.pickT 4 [2])
  ·
   rintro pre g hpre hstop
   exact kRndR (fun _ h => h) hrc1 g (by exact hstop) (fun _ h => h.pickT 4 [2])
 ·
  rintro D1 g hend1
  refine qSeq rfl ?_
  refine hSeq ?_
  refine hSeq ?_
  refine hReg (sl 0 sz) (by kernel_rfl) ?_
  refine ldl Try.isAgg2 (cB 3 rfl rfl) trv rfl rfl rfl ?_
  refine rNil ?_
  refine qSeq rfl ?_
  refine hReg (sl 0 (sl 1 sz)) (by kernel_rfl) ?_
  refine alc Try.zeroValue2 rfl trv1 rfl rfl (fun bka10 hbka10 => ?_)
  refine stl (v := .int .i64 _) 0 rfl Try.sizeOf2 trv rfl rfl rfl rfl rfl (Nat.le_of_ble_eq_true rfl) ?_
  refine rNil ?_
  refine qSeq rfl ?_
  refine hReg (sl 0 (sq 1 (sl 2 sz))) (by kernel_rfl) ?_
  refine ldl Try.isAgg2 (cB 0 rfl rfl) trv rfl rfl rfl ?_
  refine add rfl rfl rfl rfl (by omega) ?_
  refine stl (v := .int .i64 _) 0 rfl Try.sizeOf2 trv rfl rfl rfl rfl rfl (Nat.le_of_ble_eq_true rfl) ?_
  refine rNil ?_
  refine qSeq rfl ?_
  refine hSeq ?_
  refine hSeq ?_
  refine hReg (sl 0 (sq 1 (sl 2 (sq 3 sz)))) (by kernel_rfl) ?_
  refine ldl Try.isAgg2 (cB 0 rfl rfl) trv rfl rfl rfl ?_
  refine fld fl109_2 rfl rfl rfl ?_
  refine ldl Try.isAgg2 (cD (Kn.nil kbv) rfl) trv rfl rfl rfl ?_
  refine leq rfl rfl rfl rfl ?_
  refine rNil ?_
  refine qSeq rfl ?_
  refine hIfF rfl ?_
  refine hExit rfl ?_
  refine qRet rfl ?_
  exact Kn.leave 1 rfl <| fun w hs => ⟨[], trivial, .inl ⟨g, by rw [show Hd.hands z q = Hd.handsP z q (Cm.combs nz 2) from by rw [← lz]; rfl]; exact hend1, hs.pickT 5 []⟩⟩
 ·
  rintro D1 pre g hpre hstop
  exact Kn.leave 0 rfl <| fun w hs => ⟨[], trivial, .inr ⟨_, g, hstop.choose_spec.1, hstop.choose_spec.2, hs.pickT 4 []⟩⟩
end Go.Proofs.Yteaahdakammffaa
/- Contracts of low hands. Their conditions stand in each. -/
namespace Go.Proofs.Yteaahdakammffaa
open Go Go.RowKit V
set_option linter.unusedVariables false
set_option linter.unusedSimpArgs false
set_option maxRecDepth 100000
theorem impl_lowRank_c (x : Int) (w : World) (hx : 0 ≤ x ∧ x ≤ 51) :
  Calls Try.prog 180 #[.int .i64 x] w (Ret fun v w' => v = .int .i64 (Hd.lrk x) ∧ Ext w w') := by
 refine fn (M := none_) (rs := [.tmp 2]) Try.func180 rfl Try.ntmps180 rfl rfl (Sep.start _ _) ?_
 refine hSeq ?_
 refine hReg (sq 0 sz) (by kernel_rfl) ?_
 refine asI rfl rfl rfl ?_
 refine rNil ?_
 refine qSeq rfl ?_
 refine hSeq ?_
 refine hReg (sq 0 (sq 1 (sq 2 (sq 3 (sq 4 sz))))) (by kernel_rfl) ?_
 refine mvI rfl rfl rfl ?_
 refine quo rfl rfl rfl rfl (by omega) ?_
 refine add rfl rfl rfl rfl (by omega) ?_
 refine rem rfl rfl rfl rfl (by omega) ?_
 refine asI rfl rfl rfl ?_
 refine rNil ?_
 refine qSeq rfl ?_
 refine hRet ?_
 exact fun w hs => ⟨[.int .i64 (((((x / 4) + 1)) % 13))], ⟨rfl, trivial⟩, ⟨vI rfl, hs.upd⟩⟩
theorem impl_aceValue_c (az : Option Addr) (nz : Nat) (cz : Nat) (z : List Int) (w : World) (rz : RdI az nz z w) (ha : Hd.okC z) (hn : z.length = 5) :
  Calls Try.prog 159 #[.slice az nz cz] w (Ret fun v w' => v = .int .i64 (Hd.aceN z) ∧ Ext w w') := by
 have kz : Kn w none_ [] (RdI az nz z) := fun w' hs => rz.ext hs.upd
 have lz : z.length = nz := rz.1
 have mz : nz ≤ 9223372036854775807 := rz.2.1
 refine fn (M := none_) (rs := [.tmp 2]) Try.func159 rfl Try.ntmps159 rfl rfl (Sep.start _ _) ?_
 refine hSeq ?_
 refine hReg (sq 0 sz) (by kernel_rfl) ?_
 refine asI rfl rfl rfl ?_
 refine rNil ?_
 refine qSeq rfl ?_
 refine hSeq ?_
 refine hReg (sl 0 sz) (by kernel_rfl) ?_
 refine alc Try.zeroValue150 rfl trv1 rfl rfl (fun bka1 hbka1 => ?_)
 refine rPieces (L' := [arP bka1 150 .i64 (List.replicate 13 0)]) (fun _ h => h) ?_
 refine rNil ?_
 refine qSeq rfl ?_
 refine hSeq ?_
 refine hSeq ?_
 refine hReg (sq 0 (sq 1 (sq 2 sz))) (by kernel_rfl) ?_
 refine mvS rfl rfl rfl ?_
 refine lenS Try.runUnderlying23 rfl rfl rfl ?_
 refine mvI rfl rfl rfl ?_
 refine rNil ?_
 refine qSeq rfl ?_
 refine hBlk ?_
 refine hLoop (α := Nat) (fun i => i ≤ nz) (fun i => nz - i) (fun i => [arP bka1 150 .i64 ((Hd.tally Hd.lrk 13 (z.take i)))]) (fun i => [(3, .pointer (some ⟨bka1, 0, none⟩)), (12, .slice az nz cz), (13, .int .i64 (nz : Int)), (14, .int .i64 (i : Int))]) 0 (Nat.zero_le _) (fun _ h => by rw [List.take_zero, Hd.tally_nil]; exact h.pick [0]) ⟨rfl, rfl, rfl, rfl, trivial⟩ ?_
 rintro i τ1 hi
 refine hSeq ?_
 refine hReg (sq 0 sz) (by kernel_rfl) ?_
 refine lss rfl rfl rfl rfl ?_
 refine rNil ?_
 refine qSeq rfl ?_
 refine hSeq ?_
 refine hIfD rfl (fun c1 => ?_) (fun c1 => ?_)
 ·
  replace c1 : (i : Int) < (nz : Int) := c1
  have hiz : i < z.length := by omega
  have hx := ha _ (Math.getD_mem 0 hiz)
  have hlb := Hd.lrk_bd (z.getD i 0)
  have hb1 := Hd.tally_bd (f := Hd.lrk) (n := 13) (z := (z.take i)) (r := (Hd.lrk (z.getD i 0)).toNat) (by omega)
  rw [List.length_take] at hb1
  refine hSkip ?_
  refine qSeq rfl ?_
  refine hSeq ?_
  refine hBlk ?_
  refine hSeq ?_
  refine hReg (sq 0 (sl 1 (sq 2 sz))) (by kernel_rfl) ?_
  refine ixIl (zn := i) el23 (Kn.drop (k := 1) kz) rfl rfl rfl rfl (by omega) (by omega) rfl ?_
  intro ae1 e1
  refine ldl Try.isAgg2 (e1) trv rfl rfl rfl ?_
  refine asI rfl rfl rfl ?_
  refine rNil ?_
  refine qSeq rfl ?_
  refine hReg (sq 0 (sl 1 (sq 2 (sl 3 (sq 4 (sq 5 (sl 6 sz))))))) (by kernel_rfl) ?_
  refine mvI rfl rfl rfl ?_
  refine callP (v := .int .i64 ((Hd.lrk (z.getD i 0)))) Try.call180 trv rfl rfl (fun w hs => impl_lowRank_c _ w (by omega)) ?_
  refine ixAd (zn := (((Hd.lrk (z.getD i 0))).toNat)) ar150 rfl rfl rfl rfl (by omega) (by omega) rfl ?_
  refine ldl Try.isAgg3 (cArr (z := (((Hd.lrk (z.getD i 0))).toNat)) 0 rfl (by rw [Hd.tally_len]; omega)) trv rfl rfl rfl ?_
  refine add rfl rfl rfl rfl (by omega) ?_
  refine ixAd (zn := (((Hd.lrk (z.getD i 0))).toNat)) ar150 rfl rfl rfl rfl (by omega) (by omega) rfl ?_
  refine stAr (x := ((((Hd.tally Hd.lrk 13 (z.take i))).getD (((Hd.lrk (z.getD i 0))).toNat) 0) + 1)) (z := ((Hd.lrk (z.getD i 0))).toNat) 0 rfl Try.sizeOf3 trv rfl rfl rfl rfl (by rw [Hd.tally_len]; omega) ?_
  refine rNil ?_
  refine qSeq rfl ?_
  refine hReg (sq 0 (sq 1 sz)) (by kernel_rfl) ?_
  refine add rfl rfl rfl rfl (by omega) ?_
  refine mvI rfl rfl rfl ?_
  refine rNil ?_
  rw [show (Hd.tally Hd.lrk 13 (z.take i)).set (Hd.lrk (z.getD i 0)).toNat ((Hd.tally Hd.lrk 13 (z.take i)).getD (Hd.lrk (z.getD i 0)).toNat 0 + 1) = Hd.tally Hd.lrk 13 (z.take (i + 1)) from Hd.tally_take (f := Hd.lrk) hiz (by omega)]
  exact qNext rfl (i + 1) (by omega) (by omega) ⟨rfl, rfl, rfl, rfl, trivial⟩ (fun _ h => h.pick [0])
 ·
  replace c1 : ¬ ((i : Int) < (nz : Int)) := c1
  rw [List.take_of_length_le (show z.length ≤ i by omega)]
  refine hExit rfl ?_
  refine qSeq rfl ?_
  refine hSeq ?_
  refine hReg (sq 0 sz) (by kernel_rfl) ?_
  refine asI rfl rfl rfl ?_
  refine rNil ?_
  refine qSeq rfl ?_
  refine hSeq ?_
  refine hReg (sq 0 (sq 1 sz)) (by kernel_rfl) ?_
  refine asI rfl rfl rfl ?_
  refine asI rfl rfl rfl ?_
  refine rNil ?_
  refine qSeq rfl ?_
  refine hSeq ?_
  refine hSeq ?_
  refine hReg (sq 0 sz) (by kernel_rfl) ?_
  refine asI rfl rfl rfl ?_
  refine rNil ?_
  refine qSeq rfl ?_
  refine hBlk ?_
  refine hLoop (α := Nat) (fun s => s ≤ 4) (fun s => 4 - s) (fun s => [arP bka1 150 .i64 (Hd.tally Hd.lrk 13 z)]) (fun s => [(3, .pointer (some ⟨bka1, 0, none⟩)), (6, .int .i64 ((Hd.V 0 (Hd.ord (Hd.tally Hd.lrk 13 z) s 0)))), (7, .int .i64 ((Hd.prs (Hd.tally Hd.lrk 13 z) s 0))), (8, .int .i64 ((Hd.mst (Hd.tally Hd.lrk 13 z) s 0))), (9, .int .i64 ((4 - (s : Int))))]) 0 (by omega) (fun _ h => h.pick [0]) ⟨rfl, rfl, rfl, rfl, rfl, trivial⟩ ?_
  rintro s τ2 hs
  refine hSeq ?_
  refine hSeq ?_
  refine hReg (sq 0 (sq 1 sz)) (by kernel_rfl) ?_
  refine mvI rfl rfl rfl ?_
  refine gtr rfl rfl rfl rfl ?_
  refine rNil ?_
  refine qSeq rfl ?_
  refine hIfD rfl (fun c2 => ?_) (fun c2 => ?_)
  ·
   replace c2 : 0 < (4 - (s : Int)) := c2
   refine hSkip ?_
   refine qSeq rfl ?_
   refine hSeq ?_
   refine hBlk ?_
   refine hSeq ?_
   refine hReg (sq 0 sz) (by kernel_rfl) ?_
   refine asI rfl rfl rfl ?_
   refine rNil ?_
   refine qSeq rfl ?_
   refine hBlk ?_
   refine hLoop (α := Nat) (fun j => j ≤ 13) (fun j => 13 - j) (fun j => [arP bka1 150 .i64 (Hd.tally Hd.lrk 13 z)]) (fun j => [(3, .pointer (some ⟨bka1, 0, none⟩)), (6, .int .i64 ((Hd.V 0 (Hd.ord (Hd.tally Hd.lrk 13 z) s j)))), (7, .int .i64 ((Hd.prs (Hd.tally Hd.lrk 13 z) s j))), (8, .int .i64 ((Hd.mst (Hd.tally Hd.lrk 13 z) s j))), (9, .int .i64 ((4 - (s : Int)))), (10, .int .i64 ((12 - (j : Int))))]) 0 (by omega) (fun _ h => h.pick [0]) ⟨rfl, rfl, rfl, rfl, rfl, rfl, trivial⟩ ?_
   rintro j τ3 hj
   refine hSeq ?_
   refine hSeq ?_
   refine hReg (sq 0 (sq 1 sz)) (by kernel_rfl) ?_
   refine mvI rfl rfl rfl ?_
   refine geq rfl rfl rfl rfl ?_
   refine rNil ?_
   refine qSeq rfl ?_
   refine hIfD rfl (fun c3 => ?_) (fun c3 => ?_)
   ·
    replace c3 : 0 ≤ (12 - (j : Int)) := c3
    have hpb := Hd.prs_bd (Hd.tally Hd.lrk 13 z) (s := s) (j := j) hj
    have hmb := Hd.mst_bd (Hd.tally Hd.lrk 13 z) s j
    have htb := Hd.tally_bd (f := Hd.lrk) (n := 13) (z := z) (r := (12 - (j : Int)).toNat) (by omega)
    refine hSkip ?_
    refine qSeq rfl ?_
    refine hSeq ?_
    refine hBlk ?_
    refine hSeq ?_
    refine hSeq ?_
    refine hReg (sq 0 (sq 1 (sl 2 (sq 3 (sq 4 sz))))) (by kernel_rfl) ?_
    refine mvI rfl rfl rfl ?_
    refine ixAd (zn := (((12 - (j : Int))).toNat)) ar150 rfl rfl rfl rfl (by omega) (by omega) rfl ?_
    refine ldl Try.isAgg3 (cArr (z := (((12 - (j : Int))).toNat)) 0 rfl (by rw [Hd.tally_len]; omega)) trv rfl rfl rfl ?_
    refine mvI rfl rfl rfl ?_
    refine neq rfl rfl rfl rfl ?_
    refine rNil ?_
    refine qSeq rfl ?_
    refine hIfD rfl (fun c4 => ?_) (fun c4 => ?_)
    ·
     replace c4 : ((Hd.tally Hd.lrk 13 z).getD (((12 - (j : Int))).toNat) 0) ≠ (4 - (s : Int)) := c4
     have hno : ¬ (Hd.tally Hd.lrk 13 z).getD (12 - j) 0 = ((4 - s : Nat) : Int) := by have h0 := c4; rw [show (12 - (j : Int)).toNat = 12 - j by omega] at h0; omega
     have hnp : ¬ (s = 2 ∧ (Hd.tally Hd.lrk 13 z).getD (12 - j) 0 = 2) := by omega
     refine hExit rfl ?_
     refine qSeq rfl ?_
     refine hReg (sq 0 (sq 1 (sq 2 sz))) (by kernel_rfl) ?_
     refine mvI rfl rfl rfl ?_
     refine sub rfl rfl rfl rfl (by omega) ?_
     refine asI rfl rfl rfl ?_
     refine rNil ?_
     exact qNext rfl (j + 1) (by omega) (by omega) ((by repeat first | exact trivial | refine ⟨by first | rfl | exact vI (by first | (push_cast; omega) | (rw [Hd.ord_no hno]) | exact Hd.mst_no hno | exact Hd.prs_no hnp), ?_⟩)) (fun _ h => h.pick [0])
    ·
     replace c4 : ¬ (((Hd.tally Hd.lrk 13 z).getD (((12 - (j : Int))).toNat) 0) ≠ (4 - (s : Int))) := c4
     have hyes : (Hd.tally Hd.lrk 13 z).getD (12 - j) 0 = ((4 - s : Nat) : Int) := by have h0 := c4; rw [show (12 - (j : Int)).toNat = 12 - j by omega] at h0; omega
     have hol := Hd.ord_len5 (f := Hd.lrk) (z := z) (fun x _ => Hd.lrk_bd x) (s := s) (j := j + 1) (by omega) (by omega)
     rw [Hd.ord_yes hyes, List.length_append, List.length_replicate] at hol
     refine hSkip ?_
     refine qSeq rfl ?_
     refine hSeq ?_
     refine hReg (sq 0 (sq 1 (sq 2 (sq 3 sz)))) (by kernel_rfl) ?_
     refine mvI rfl rfl rfl ?_
     refine mvI rfl rfl rfl ?_
     refine max2 rfl rfl rfl rfl ?_
     refine asI rfl rfl rfl ?_
     refine rNil ?_
     refine qSeq rfl ?_
     refine hSeq ?_
     refine hSeq ?_
     refine hReg (sq 0 (sq 1 sz)) (by kernel_rfl) ?_
     refine mvI rfl rfl rfl ?_
     refine eql rfl rfl rfl rfl ?_
     refine rNil ?_
     refine qSeq rfl ?_
     refine hIfD rfl (fun c5 => ?_) (fun c5 => ?_)
     ·
      replace c5 : (4 - (s : Int)) = 2 := c5
      have es : s = 2 := by omega
      have hprs : Hd.prs (Hd.tally Hd.lrk 13 z) s j + 1 = Hd.prs (Hd.tally Hd.lrk 13 z) s (j + 1) := by subst es; exact Hd.prs_yes hyes
      refine hReg (sq 0 (sq 1 (sq 2 sz))) (by kernel_rfl) ?_
      refine mvI rfl rfl rfl ?_
      refine add rfl rfl rfl rfl (by omega) ?_
      refine asI rfl rfl rfl ?_
      refine rNil ?_
      refine qSeq rfl ?_
      refine hSeq ?_
      refine hReg (sq 0 (sq 1 sz)) (by kernel_rfl) ?_
      refine mvI rfl rfl rfl ?_
      refine mvI rfl rfl rfl ?_
      refine rNil ?_
      refine qSeq rfl ?_
      refine hBlk ?_
      refine hLoop (α := Nat) (fun q => q ≤ 4 - s) (fun q => 4 - s - q) (fun q => [arP bka1 150 .i64 (Hd.tally Hd.lrk 13 z)]) (fun q => [(3, .pointer (some ⟨bka1, 0, none⟩)), (6, .int .i64 ((Hd.V 0 (Hd.ord (Hd.tally Hd.lrk 13 z) s j ++ List.replicate q (12 - (j : Int)))))), (7, .int .i64 (((Hd.prs (Hd.tally Hd.lrk 13 z) s j) + 1))), (8, .int .i64 ((max ((Hd.mst (Hd.tally Hd.lrk 13 z) s j)) ((4 - (s : Int)))))), (9, .int .i64 ((4 - (s : Int)))), (10, .int .i64 ((12 - (j : Int)))), (45, .int .i64 ((4 - (s : Int)))), (46, .int .i64 (q : Int))]) 0 (Nat.zero_le _) (fun _ h => h.pick [0]) (by repeat first | exact trivial | refine ⟨by first | rfl | exact vI (by rw [List.replicate_zero, List.append_nil]), ?_⟩) ?_
      rintro q τ4 hq
      refine hSeq ?_
      refine hReg (sq 0 sz) (by kernel_rfl) ?_
      refine lss rfl rfl rfl rfl ?_
      refine rNil ?_
      refine qSeq rfl ?_
      refine hSeq ?_
      refine hIfD rfl (fun c6 => ?_) (fun c6 => ?_)
      ·
       replace c6 : (q : Int) < (4 - (s : Int)) := c6
       have hvb := Hd.V_le (c := 0) (z := Hd.ord (Hd.tally Hd.lrk 13 z) s j ++ List.replicate q (12 - (j : Int))) (Hd.digs_app (Hd.ord_digs hj) (Hd.digs_rep (by omega))) (by decide) (by rw [List.length_append, List.length_replicate]; omega)
       refine hSkip ?_
       refine qSeq rfl ?_
       refine hSeq ?_
       refine hBlk ?_
       refine hReg (sq 0 (sq 1 (sq 2 (sq 3 (sq 4 sz))))) (by kernel_rfl) ?_
       refine mvI rfl rfl rfl ?_
       refine mul rfl rfl rfl rfl (by omega) ?_
       refine mvI rfl rfl rfl ?_
       refine add rfl rfl rfl rfl (by omega) ?_
       refine asI rfl rfl rfl ?_
       refine rNil ?_
       refine qSeq rfl ?_
       refine hReg (sq 0 (sq 1 sz)) (by kernel_rfl) ?_
       refine add rfl rfl rfl rfl (by omega) ?_
       refine mvI rfl rfl rfl ?_
       refine rNil ?_
       exact qNext rfl (q + 1) (by omega) (by omega) ((by repeat first | exact trivial | refine ⟨by first | rfl | exact vI ((Hd.V_rep _ _ _ _).symm), ?_⟩)) (fun _ h => h.pick [0])
      ·
       replace c6 : ¬ ((q : Int) < (4 - (s : Int))) := c6
       refine hExit rfl ?_
       refine qSeq rfl ?_
       refine hReg (sq 0 (sq 1 (sq 2 sz))) (by kernel_rfl) ?_
       refine mvI rfl rfl rfl ?_
       refine sub rfl rfl rfl rfl (by omega) ?_
       refine asI rfl rfl rfl ?_
       refine rNil ?_
       exact qNext rfl (j + 1) (by omega) (by omega) ((by repeat first | exact trivial | refine ⟨by first | rfl | exact vI (by first | (push_cast; omega) | (first | (rw [show q = 4 - s by omega, ← Hd.ord_yes hyes]) | exact Hd.mst_yes (by omega) hyes | exact (Hd.prs_no (by omega)) | exact hprs)), ?_⟩)) (fun _ h => h.pick [0])
     ·
      replace c5 : ¬ ((4 - (s : Int)) = 2) := c5
      refine hSkip ?_
      refine qSeq rfl ?_
      refine hSeq ?_
      refine hReg (sq 0 (sq 1 sz)) (by kernel_rfl) ?_
      refine mvI rfl rfl rfl ?_
      refine mvI rfl rfl rfl ?_
      refine rNil ?_
      refine qSeq rfl ?_
      refine hBlk ?_
      refine hLoop (α := Nat) (fun q => q ≤ 4 - s) (fun q => 4 - s - q) (fun q => [arP bka1 150 .i64 (Hd.tally Hd.lrk 13 z)]) (fun q => [(3, .pointer (some ⟨bka1, 0, none⟩)), (6, .int .i64 ((Hd.V 0 (Hd.ord (Hd.tally Hd.lrk 13 z) s j ++ List.replicate q (12 - (j : Int)))))), (7, .int .i64 ((Hd.prs (Hd.tally Hd.lrk 13 z) s j))), (8, .int .i64 ((max ((Hd.mst (Hd.tally Hd.lrk 13 z) s j)) ((4 - (s : Int)))))), (9, .int .i64 ((4 - (s : Int)))), (10, .int .i64 ((12 - (j : Int)))), (45, .int .i64 ((4 - (s : Int)))), (46, .int .i64 (q : Int))]) 0 (Nat.zero_le _) (fun _ h => h.pick [0]) (by repeat first | exact trivial | refine ⟨by first | rfl | exact vI (by rw [List.replicate_zero, List.append_nil]), ?_⟩) ?_
      rintro q τ5 hq
      refine hSeq ?_
      refine hReg (sq 0 sz) (by kernel_rfl) ?_
      refine lss rfl rfl rfl rfl ?_
      refine rNil ?_
      refine qSeq rfl ?_
      refine hSeq ?_
      refine hIfD rfl (fun c7 => ?_) (fun c7 => ?_)
      ·
       replace c7 : (q : Int) < (4 - (s : Int)) := c7
       have hvb := Hd.V_le (c := 0) (z := Hd.ord (Hd.tally Hd.lrk 13 z) s j ++ List.replicate q (12 - (j : Int))) (Hd.digs_app (Hd.ord_digs hj) (Hd.digs_rep (by omega))) (by decide) (by rw [List.length_append, List.length_replicate]; omega)
       refine hSkip ?_
       refine qSeq rfl ?_
       refine hSeq ?_
       refine hBlk ?_
       refine hReg (sq 0 (sq 1 (sq 2 (sq 3 (sq 4 sz))))) (by kernel_rfl) ?_
       refine mvI rfl rfl rfl ?_
       refine mul rfl rfl rfl rfl (by omega) ?_
       refine mvI rfl rfl rfl ?_
       refine add rfl rfl rfl rfl (by omega) ?_
       refine asI rfl rfl rfl ?_
       refine rNil ?_
       refine qSeq rfl ?_
       refine hReg (sq 0 (sq 1 sz)) (by kernel_rfl) ?_
       refine add rfl rfl rfl rfl (by omega) ?_
       refine mvI rfl rfl rfl ?_
       refine rNil ?_
       exact qNext rfl (q + 1) (by omega) (by omega) ((by repeat first | exact trivial | refine ⟨by first | rfl | exact vI ((Hd.V_rep _ _ _ _).symm), ?_⟩)) (fun _ h => h.pick [0])
      ·
       replace c7 : ¬ ((q : Int) < (4 - (s : Int))) := c7
       refine hExit rfl ?_
       refine qSeq rfl ?_
       refine hReg (sq 0 (sq 1 (sq 2 sz))) (by kernel_rfl) ?_
       refine mvI rfl rfl rfl ?_
       refine sub rfl rfl rfl rfl (by omega) ?_
       refine asI rfl rfl rfl ?_
       refine rNil ?_
       exact qNext rfl (j + 1) (by omega) (by omega) ((by repeat first | exact trivial | refine ⟨by first | rfl | exact vI (by first | (push_cast; omega) | (first | (rw [show q = 4 - s by omega, ← Hd.ord_yes hyes]) | exact Hd.mst_yes (by omega) hyes | exact (Hd.prs_no (by omega)) | exact hprs)), ?_⟩)) (fun _ h => h.pick [0])
   ·
    replace c3 : ¬ (0 ≤ (12 - (j : Int))) := c3
    refine hExit rfl ?_
    refine qSeq rfl ?_
    refine hReg (sq 0 (sq 1 (sq 2 sz))) (by kernel_rfl) ?_
    refine mvI rfl rfl rfl ?_
    refine sub rfl rfl rfl rfl (by omega) ?_
    refine asI rfl rfl rfl ?_
    refine rNil ?_
    exact qNext rfl (s + 1) (by omega) (by omega) ((by repeat first | exact trivial | refine ⟨by first | rfl | exact vI (by first | (push_cast; omega) | (rw [show j = 13 by omega]; first | rw [Hd.ord_next] | exact Hd.prs_next _ _ | exact Hd.mst_next _ _)), ?_⟩)) (fun _ h => h.pick [0])
  ·
   replace c2 : ¬ (0 < (4 - (s : Int))) := c2
   have hpb := Hd.prs_bd (Hd.tally Hd.lrk 13 z) (s := s) (j := 0) (by omega)
   have hmb := Hd.mst_bd (Hd.tally Hd.lrk 13 z) s 0
   have hvb := Hd.V_le (c := 0) (z := Hd.ord (Hd.tally Hd.lrk 13 z) s 0) (Hd.ord_digs (by omega)) (by decide) (by have := Hd.ord_len5 (f := Hd.lrk) (z := z) (fun x _ => Hd.lrk_bd x) (s := s) (j := 0) (by omega) (by omega); omega)
   refine hExit rfl ?_
   refine qSeq rfl ?_
   refine hSeq ?_
   refine hReg (sq 0 (sq 1 sz)) (by kernel_rfl) ?_
   refine mvI rfl rfl rfl ?_
   refine asI rfl rfl rfl ?_
   refine rNil ?_
   refine qSeq rfl ?_
   refine hSeq ?_
   refine hBlk ?_
   refine hSeq ?_
   refine hReg (sq 0 (sq 1 (sq 2 sz))) (by kernel_rfl) ?_
   refine mvI rfl rfl rfl ?_
   refine eql rfl rfl rfl rfl ?_
   refine asB rfl rfl rfl ?_
   refine rNil ?_
   refine qSeq rfl ?_
   refine hIfD rfl (fun c8 => ?_) (fun c8 => ?_)
   ·
    replace c8 : (Hd.mst (Hd.tally Hd.lrk 13 z) s 0) = 4 := c8
    refine hReg (sq 0 sz) (by kernel_rfl) ?_
    refine asI rfl rfl rfl ?_
    refine rNil ?_
    refine qSeq rfl ?_
    refine hSeq ?_
    refine hReg (sq 0 (sq 1 (sq 2 (sq 3 (sq 4 sz))))) (by kernel_rfl) ?_
    refine mvI rfl rfl rfl ?_
    refine mvI rfl rfl rfl ?_
    refine mul rfl rfl rfl rfl (by omega) ?_
    refine add rfl rfl rfl rfl (by omega) ?_
    refine asI rfl rfl rfl ?_
    refine rNil ?_
    refine qSeq rfl ?_
    refine hRet ?_
    exact fun w hs => ⟨[.int .i64 (((Hd.V 0 (Hd.ord (Hd.tally Hd.lrk 13 z) s 0)) + (5 * 371293)))], ⟨rfl, trivial⟩, ⟨vI (by obtain rfl := (show s = 4 by omega); unfold Hd.aceN Hd.pat; repeat (first | rfl | rw [if_pos (by omega)] | rw [if_neg (by omega)])), hs.upd⟩⟩
   ·
    replace c8 : ¬ ((Hd.mst (Hd.tally Hd.lrk 13 z) s 0) = 4) := c8
    refine hSeq ?_
    refine hReg (sq 0 (sq 1 (sq 2 sz))) (by kernel_rfl) ?_
    refine mvI rfl rfl rfl ?_
    refine eql rfl rfl rfl rfl ?_
    refine asB rfl rfl rfl ?_
    refine rNil ?_
    refine qSeq rfl ?_
    refine hIfD rfl (fun c9 => ?_) (fun c9 => ?_)
    ·
     replace c9 : (Hd.mst (Hd.tally Hd.lrk 13 z) s 0) = 3 := c9
     refine hReg (sq 0 (sq 1 (sq 2 sz))) (by kernel_rfl) ?_
     refine mvI rfl rfl rfl ?_
     refine add rfl rfl rfl rfl (by omega) ?_
     refine asI rfl rfl rfl ?_
     refine rNil ?_
     refine qSeq rfl ?_
     refine hSeq ?_
     refine hReg (sq 0 (sq 1 (sq 2 (sq 3 (sq 4 sz))))) (by kernel_rfl) ?_
     refine mvI rfl rfl rfl ?_
     refine mvI rfl rfl rfl ?_
     refine mul rfl rfl rfl rfl (by omega) ?_
     refine add rfl rfl rfl rfl (by omega) ?_
     refine asI rfl rfl rfl ?_
     refine rNil ?_
     refine qSeq rfl ?_
     refine hRet ?_
     exact fun w hs => ⟨[.int .i64 (((Hd.V 0 (Hd.ord (Hd.tally Hd.lrk 13 z) s 0)) + ((3 + (Hd.prs (Hd.tally Hd.lrk 13 z) s 0)) * 371293)))], ⟨rfl, trivial⟩, ⟨vI (by obtain rfl := (show s = 4 by omega); unfold Hd.aceN Hd.pat; repeat (first | rfl | rw [if_pos (by omega)] | rw [if_neg (by omega)])), hs.upd⟩⟩
    ·
     replace c9 : ¬ ((Hd.mst (Hd.tally Hd.lrk 13 z) s 0) = 3) := c9
     refine hSkip ?_
     refine qSeq rfl ?_
     refine hSeq ?_
     refine hReg (sq 0 (sq 1 (sq 2 (sq 3 (sq 4 sz))))) (by kernel_rfl) ?_
     refine mvI rfl rfl rfl ?_
     refine mvI rfl rfl rfl ?_
     refine mul rfl rfl rfl rfl (by omega) ?_
     refine add rfl rfl rfl rfl (by omega) ?_
     refine asI rfl rfl rfl ?_
     refine rNil ?_
     refine qSeq rfl ?_
     refine hRet ?_
     exact fun w hs => ⟨[.int .i64 (((Hd.V 0 (Hd.ord (Hd.tally Hd.lrk 13 z) s 0)) + ((Hd.prs (Hd.tally Hd.lrk 13 z) s 0) * 371293)))], ⟨rfl, trivial⟩, ⟨vI (by obtain rfl := (show s = 4 by omega); unfold Hd.aceN Hd.pat; repeat (first | rfl | rw [if_pos (by omega)] | rw [if_neg (by omega)])), hs.upd⟩⟩
end Go.Proofs.Yteaahdakammffaa
/- Contracts of the best hands. Their conditions stand in each. -/
namespace Go.Proofs.Yteaahdakammffaa
open Go Go.RowKit V
set_option linter.unusedVariables false
set_option linter.unusedSimpArgs false
set_option maxRecDepth 100000
theorem fl109_0 : Fld Try.prog 109 0 0 := by
 intro w ad; simp [Instr.fieldAt, Try.runUnderlying109, Instr.sureAddr, fieldPlace, Try.sizeOf2]
theorem fl109_3 : Fld Try.prog 109 3 3 := by
 intro w ad; simp [Instr.fieldAt, Try.runUnderlying109, Instr.sureAddr, fieldPlace, Try.sizeOf2]
theorem fl109_5 : Fld Try.prog 109 5 5 := by
 intro w ad; simp [Instr.fieldAt, Try.runUnderlying109, Instr.sureAddr, fieldPlace, Try.sizeOf2]
theorem bsl22_2 (v0 v1 : Value) (h0 : v0.cells = #[v0]) (h1 : v1.cells = #[v1]) : ∀ w, (Instr.buildSlice 22 2 ([(0, v0), (1, v1)] : List (Nat × Value)).toArray).run Try.prog w = .ok (.slice (some ⟨w.heap.size, 0, none⟩) 2 2) (w.alloc (.cells ([v0, v1] : List Value).toArray 23)) := by
 intro w; simp [Instr.buildSlice, Instr.fill, Try.zeroValue23, Try.runUnderlying22, Try.sizeOf23, Value.cells_int, newRow, show Array.range 2 = #[0, 1] from by decide, h0, h1]
theorem bld109_0_1_2_3_4_5 (v0 v1 v2 v3 v4 v5 : Value) (h0 : v0.cells = #[v0]) (h1 : v1.cells = #[v1]) (h2 : v2.cells = #[v2]) (h3 : v3.cells = #[v3]) (h4 : v4.cells = #[v4]) (h5 : v5.cells = #[v5]) : ∀ w, (Instr.build 109 ([(0, v0), (1, v1), (2, v2), (3, v3), (4, v4), (5, v5)] : List (Nat × Value)).toArray).run Try.prog w = .ok (.agg ([v0, v1, v2, v3, v4, v5] : List Value).toArray) w := by
 intro w; simp [Instr.build, Instr.fill, Try.zeroValue109, Try.runUnderlying109, aggCells, Try.sizeOf2, Try.sizeOf4, h0, h1, h2, h3, h4, h5]
theorem impl_IsEightOrBetter_c (x : Int) (w : World) :
  Calls Try.prog 141 #[.int .i64 x] w (Ret fun v w' => v = .bool (decide (0 ≤ x ∧ x ≤ 228487)) ∧ Ext w w') := by
 refine fn (M := none_) (rs := [.tmp 2]) Try.func141 rfl Try.ntmps141 rfl rfl (Sep.start _ _) ?_
 refine hSeq ?_
 refine hReg (sq 0 sz) (by kernel_rfl) ?_
 refine asB rfl rfl rfl ?_
 refine rNil ?_
 refine qSeq rfl ?_
 refine hSeq ?_
 refine hReg (sq 0 (sl 1 (sq 2 sz))) (by kernel_rfl) ?_
 refine mvI rfl rfl rfl ?_
 refine callP (v := .bool (decide ((0 : Int) ≤ x ∧ x ≤ (228487 : Int)))) Try.call65 trv rfl rfl (fun w hs => impl_within_c _ _ _ w ) ?_
 refine asB rfl rfl rfl ?_
 refine rNil ?_
 refine qSeq rfl ?_
 refine hRet ?_
 exact fun w hs => ⟨[.bool (decide ((0 : Int) ≤ x ∧ x ≤ (228487 : Int)))], ⟨rfl, trivial⟩, ⟨by first | rfl | exact bD (by omega) | exact bT (by omega) | exact bF (by omega) | exact vI (by omega), hs.upd⟩⟩
theorem impl_standardVariant_c (vn : Int) (w : World) (hv : 0 ≤ vn ∧ vn ≤ 2) :
  Calls Try.prog 108 #[.int .i64 vn] w (Ret fun v w' => v = .agg #[.int .i64 (Hd.vHole vn), .int .i64 (Hd.vLeast vn), .int .i64 2, .int .i64 5, .bool true, .int .i64 (Hd.vLow vn)] ∧ Ext w w') := by
 refine fn (M := none_) (rs := [.cell 2 109]) Try.func108 rfl Try.ntmps108 rfl rfl (Sep.start _ _) ?_
 refine hSeq ?_
 refine hReg (sl 0 sz) (by kernel_rfl) ?_
 refine alc Try.zeroValue109 rfl trv1 rfl rfl (fun bka1 hbka1 => ?_)
 refine rNil ?_
 refine qSeq rfl ?_
 refine hSeq ?_
 refine hSeq ?_
 refine hReg (sq 0 sz) (by kernel_rfl) ?_
 refine mvI rfl rfl rfl ?_
 refine rNil ?_
 refine qSeq rfl ?_
 refine hBlk ?_
 refine hSeq ?_
 refine hReg (sq 0 (sq 1 sz)) (by kernel_rfl) ?_
 refine eql rfl rfl rfl rfl ?_
 refine asB rfl rfl rfl ?_
 refine rNil ?_
 refine qSeq rfl ?_
 refine hIfD rfl (fun c1 => ?_) (fun c1 => ?_)
 ·
  replace c1 : vn = 0 := c1
  refine hSeq ?_
  refine hReg (sq 0 (sl 1 sz)) (by kernel_rfl) ?_
  refine bld rfl rfl rfl (bld109_0_1_2_3_4_5 (.int .i64 _) (.int .i64 _) (.int .i64 _) (.int .i64 _) (.bool _) (.int .i64 _) rfl rfl rfl rfl rfl rfl) ?_
  refine stAl (vs := [.int .i64 2, .int .i64 0, .int .i64 2, .int .i64 5, .bool true, .int .i64 0]) 0 rfl Try.sizeOf109 trv rfl rfl rfl rfl rfl (by simp [Value.oneCell']) rfl ?_
  refine rNil ?_
  refine qSeq rfl ?_
  refine hRet ?_
  exact fun w hs => ⟨[_], ⟨⟨_, rfl, run_load_agg Try.isAgg109 Try.sizeOf109 rfl (cBs 0 rfl w hs)⟩, trivial⟩, ⟨by first | (exfalso; omega) | (unfold Hd.vHole Hd.vLeast Hd.vLow; repeat (first | rfl | rw [if_pos (by omega)] | rw [if_neg (by omega)])), hs.upd⟩⟩
 ·
  replace c1 : ¬ (vn = 0) := c1
  refine hSeq ?_
  refine hReg (sq 0 (sq 1 sz)) (by kernel_rfl) ?_
  refine eql rfl rfl rfl rfl ?_
  refine asB rfl rfl rfl ?_
  refine rNil ?_
  refine qSeq rfl ?_
  refine hIfD rfl (fun c2 => ?_) (fun c2 => ?_)
  ·
   replace c2 : vn = 1 := c2
   refine hSeq ?_
   refine hReg (sq 0 (sl 1 sz)) (by kernel_rfl) ?_
   refine bld rfl rfl rfl (bld109_0_1_2_3_4_5 (.int .i64 _) (.int .i64 _) (.int .i64 _) (.int .i64 _) (.bool _) (.int .i64 _) rfl rfl rfl rfl rfl rfl) ?_
   refine stAl (vs := [.int .i64 4, .int .i64 2, .int .i64 2, .int .i64 5, .bool true, .int .i64 0]) 0 rfl Try.sizeOf109 trv rfl rfl rfl rfl rfl (by simp [Value.oneCell']) rfl ?_
   refine rNil ?_
   refine qSeq rfl ?_
   refine hRet ?_
   exact fun w hs => ⟨[_], ⟨⟨_, rfl, run_load_agg Try.isAgg109 Try.sizeOf109 rfl (cBs 0 rfl w hs)⟩, trivial⟩, ⟨by first | (exfalso; omega) | (unfold Hd.vHole Hd.vLeast Hd.vLow; repeat (first | rfl | rw [if_pos (by omega)] | rw [if_neg (by omega)])), hs.upd⟩⟩
  ·
   replace c2 : ¬ (vn = 1) := c2
   refine hSeq ?_
   refine hReg (sq 0 (sq 1 sz)) (by kernel_rfl) ?_
   refine eql rfl rfl rfl rfl ?_
   refine asB rfl rfl rfl ?_
   refine rNil ?_
   refine qSeq rfl ?_
   refine hIfD rfl (fun c3 => ?_) (fun c3 => ?_)
   ·
    replace c3 : vn = 2 := c3
    refine hSeq ?_
    refine hReg (sq 0 (sl 1 sz)) (by kernel_rfl) ?_
    refine bld rfl rfl rfl (bld109_0_1_2_3_4_5 (.int .i64 _) (.int .i64 _) (.int .i64 _) (.int .i64 _) (.bool _) (.int .i64 _) rfl rfl rfl rfl rfl rfl) ?_
    refine stAl (vs := [.int .i64 4, .int .i64 2, .int .i64 2, .int .i64 5, .bool true, .int .i64 1]) 0 rfl Try.sizeOf109 trv rfl rfl rfl rfl rfl (by simp [Value.oneCell']) rfl ?_
    refine rNil ?_
    refine qSeq rfl ?_
    refine hRet ?_
    exact fun w hs => ⟨[_], ⟨⟨_, rfl, run_load_agg Try.isAgg109 Try.sizeOf109 rfl (cBs 0 rfl w hs)⟩, trivial⟩, ⟨by first | (exfalso; omega) | (unfold Hd.vHole Hd.vLeast Hd.vLow; repeat (first | rfl | rw [if_pos (by omega)] | rw [if_neg (by omega)])), hs.upd⟩⟩
   ·
    replace c3 : ¬ (vn = 2) := c3
    refine hSeq ?_
    refine hReg (sq 0 (sq 1 sz)) (by kernel_rfl) ?_
    refine eql rfl rfl rfl rfl ?_
    refine asB rfl rfl rfl ?_
    refine rNil ?_
    refine qSeq rfl ?_
    refine hIfD rfl (fun c4 => ?_) (fun c4 => ?_)
    ·
     replace c4 : vn = 3 := c4
     refine hSeq ?_
     refine hReg (sq 0 (sl 1 sz)) (by kernel_rfl) ?_
     refine bld rfl rfl rfl (bld109_0_1_2_3_4_5 (.int .i64 _) (.int .i64 _) (.int .i64 _) (.int .i64 _) (.bool _) (.int .i64 _) rfl rfl rfl rfl rfl rfl) ?_
     refine stAl (vs := [.int .i64 7, .int .i64 5, .int .i64 5, .int .i64 0, .bool true, .int .i64 0]) 0 rfl Try.sizeOf109 trv rfl rfl rfl rfl rfl (by simp [Value.oneCell']) rfl ?_
     refine rNil ?_
     refine qSeq rfl ?_
     refine hRet ?_
     exact fun w hs => ⟨[_], ⟨⟨_, rfl, run_load_agg Try.isAgg109 Try.sizeOf109 rfl (cBs 0 rfl w hs)⟩, trivial⟩, ⟨by first | (exfalso; omega) | (unfold Hd.vHole Hd.vLeast Hd.vLow; repeat (first | rfl | rw [if_pos (by omega)] | rw [if_neg (by omega)])), hs.upd⟩⟩
    ·
     replace c4 : ¬ (vn = 3) := c4
     refine hSeq ?_
     refine hReg (sq 0 (sq 1 sz)) (by kernel_rfl) ?_
     refine eql rfl rfl rfl rfl ?_
     refine asB rfl rfl rfl ?_
     refine rNil ?_
     refine qSeq rfl ?_
     refine hIfD rfl (fun c5 => ?_) (fun c5 => ?_)
     ·
      replace c5 : vn = 4 := c5
      refine hSeq ?_
      refine hReg (sq 0 (sl 1 sz)) (by kernel_rfl) ?_
      refine bld rfl rfl rfl (bld109_0_1_2_3_4_5 (.int .i64 _) (.int .i64 _) (.int .i64 _) (.int .i64 _) (.bool _) (.int .i64 _) rfl rfl rfl rfl rfl rfl) ?_
      refine stAl (vs := [.int .i64 7, .int .i64 5, .int .i64 5, .int .i64 0, .bool true, .int .i64 1]) 0 rfl Try.sizeOf109 trv rfl rfl rfl rfl rfl (by simp [Value.oneCell']) rfl ?_
      refine rNil ?_
      refine qSeq rfl ?_
      refine hRet ?_
      exact fun w hs => ⟨[_], ⟨⟨_, rfl, run_load_agg Try.isAgg109 Try.sizeOf109 rfl (cBs 0 rfl w hs)⟩, trivial⟩, ⟨by first | (exfalso; omega) | (unfold Hd.vHole Hd.vLeast Hd.vLow; repeat (first | rfl | rw [if_pos (by omega)] | rw [if_neg (by omega)])), hs.upd⟩⟩
     ·
      replace c5 : ¬ (vn = 4) := c5
      refine hSeq ?_
      refine hReg (sq 0 (sq 1 sz)) (by kernel_rfl) ?_
      refine eql rfl rfl rfl rfl ?_
      refine asB rfl rfl rfl ?_
      refine rNil ?_
      refine qSeq rfl ?_
      refine hIfD rfl (fun c6 => ?_) (fun c6 => ?_)
      ·
       replace c6 : vn = 5 := c6
       refine hSeq ?_
       refine hReg (sq 0 (sl 1 sz)) (by kernel_rfl) ?_
       refine bld rfl rfl rfl (bld109_0_1_2_3_4_5 (.int .i64 _) (.int .i64 _) (.int .i64 _) (.int .i64 _) (.bool _) (.int .i64 _) rfl rfl rfl rfl rfl rfl) ?_
       refine stAl (vs := [.int .i64 7, .int .i64 5, .int .i64 5, .int .i64 0, .bool false, .int .i64 2]) 0 rfl Try.sizeOf109 trv rfl rfl rfl rfl rfl (by simp [Value.oneCell']) rfl ?_
       refine rNil ?_
       refine qSeq rfl ?_
       refine hRet ?_
       exact fun w hs => ⟨[_], ⟨⟨_, rfl, run_load_agg Try.isAgg109 Try.sizeOf109 rfl (cBs 0 rfl w hs)⟩, trivial⟩, ⟨by first | (exfalso; omega) | (unfold Hd.vHole Hd.vLeast Hd.vLow; repeat (first | rfl | rw [if_pos (by omega)] | rw [if_neg (by omega)])), hs.upd⟩⟩
      ·
       replace c6 : ¬ (vn = 5) := c6
       refine hSeq ?_
       refine hReg (sq 0 (sq 1 sz)) (by kernel_rfl) ?_
       refine eql rfl rfl rfl rfl ?_
       refine asB rfl rfl rfl ?_
       refine rNil ?_
       refine qSeq rfl ?_
       refine hIfD rfl (fun c7 => ?_) (fun c7 => ?_)
       ·
        replace c7 : vn = 6 := c7
        refine hSeq ?_
        refine hReg (sq 0 (sl 1 sz)) (by kernel_rfl) ?_
        refine bld rfl rfl rfl (bld109_0_1_2_3_4_5 (.int .i64 _) (.int .i64 _) (.int .i64 _) (.int .i64 _) (.bool _) (.int .i64 _) rfl rfl rfl rfl rfl rfl) ?_
        refine stAl (vs := [.int .i64 5, .int .i64 5, .int .i64 5, .int .i64 0, .bool true, .int .i64 0]) 0 rfl Try.sizeOf109 trv rfl rfl rfl rfl rfl (by simp [Value.oneCell']) rfl ?_
        refine rNil ?_
        refine qSeq rfl ?_
        refine hRet ?_
        exact fun w hs => ⟨[_], ⟨⟨_, rfl, run_load_agg Try.isAgg109 Try.sizeOf109 rfl (cBs 0 rfl w hs)⟩, trivial⟩, ⟨by first | (exfalso; omega) | (unfold Hd.vHole Hd.vLeast Hd.vLow; repeat (first | rfl | rw [if_pos (by omega)] | rw [if_neg (by omega)])), hs.upd⟩⟩
       ·
        replace c7 : ¬ (vn = 6) := c7
        refine hSkip ?_
        refine qSeq rfl ?_
        refine hSeq ?_
        refine hReg (sq 0 (sl 1 sz)) (by kernel_rfl) ?_
        refine bld rfl rfl rfl (bld109_0_1_2_3_4_5 (.int .i64 _) (.int .i64 _) (.int .i64 _) (.int .i64 _) (.bool _) (.int .i64 _) rfl rfl rfl rfl rfl rfl) ?_
        refine stAl (vs := [.int .i64 5, .int .i64 5, .int .i64 5, .int .i64 0, .bool false, .int .i64 3]) 0 rfl Try.sizeOf109 trv rfl rfl rfl rfl rfl (by simp [Value.oneCell']) rfl ?_
        refine rNil ?_
        refine qSeq rfl ?_
        refine hRet ?_
        exact fun w hs => ⟨[_], ⟨⟨_, rfl, run_load_agg Try.isAgg109 Try.sizeOf109 rfl (cBs 0 rfl w hs)⟩, trivial⟩, ⟨by first | (exfalso; omega) | (unfold Hd.vHole Hd.vLeast Hd.vLow; repeat (first | rfl | rw [if_pos (by omega)] | rw [if_neg (by omega)])), hs.upd⟩⟩
theorem impl_lowValue_c (ho : Int) (lea : Int) (mo : Int) (bo : Int) (hi : Bool) (lo : Int) (az : Option Addr) (nz : Nat) (cz : Nat) (z : List Int) (w : World) (rz : RdI az nz z w) (hlo : lo ≠ 3) (ha : Hd.okC z) (hn : z.length = 5) :
  Calls Try.prog 140 #[.agg #[.int .i64 ho, .int .i64 lea, .int .i64 mo, .int .i64 bo, .bool hi, .int .i64 lo], .slice az nz cz] w (Ret fun v w' => v = .int .i64 (Hd.aceN z) ∧ Ext w w') := by
 have kz : Kn w none_ [] (RdI az nz z) := fun w' hs => rz.ext hs.upd
 have lz : z.length = nz := rz.1
 have mz : nz ≤ 9223372036854775807 := rz.2.1
 refine fn (M := none_) (rs := [.tmp 4]) Try.func140 rfl Try.ntmps140 rfl rfl (Sep.start _ _) ?_
 refine hSeq ?_
 refine hReg (sl 0 (sq 1 sz)) (by kernel_rfl) ?_
 refine box trv1 rfl rfl rfl rfl (fun bkb1 hbkb1 => ?_)
 refine asI rfl rfl rfl ?_
 refine rNil ?_
 refine qSeq rfl ?_
 refine hSeq ?_
 refine hSeq ?_
 refine hReg (sq 0 (sl 1 (sq 2 sz))) (by kernel_rfl) ?_
 refine fld fl109_5 rfl rfl rfl ?_
 refine ldl Try.isAgg2 (cB 0 rfl rfl) trv rfl rfl rfl ?_
 refine eql rfl rfl rfl rfl ?_
 refine rNil ?_
 refine qSeq rfl ?_
 refine hIfD rfl (fun c1 => ?_) (fun c1 => ?_)
 ·
  replace c1 : lo = 3 := c1
  exact absurd c1 hlo
 ·
  replace c1 : ¬ (lo = 3) := c1
  refine hSkip ?_
  refine qSeq rfl ?_
  refine hSeq ?_
  refine hReg (sq 0 (sl 1 (sq 2 sz))) (by kernel_rfl) ?_
  refine mvS rfl rfl rfl ?_
  refine callP (v := .int .i64 (Hd.aceN z)) Try.call159 trv rfl rfl (fun w hs => impl_aceValue_c _ _ _ _ w (Kn.drop (k := 1) kz w hs) (by assumption) (by omega)) ?_
  refine asI rfl rfl rfl ?_
  refine rNil ?_
  refine qSeq rfl ?_
  refine hRet ?_
  exact fun w hs => ⟨[.int .i64 (Hd.aceN z)], ⟨rfl, trivial⟩, ⟨by first | rfl | exact bD (by omega) | exact bT (by omega) | exact bF (by omega) | exact vI (by omega), hs.upd⟩⟩
theorem impl_lowIn_c (ho : Int) (lea : Int) (mo : Int) (bo : Int) (hi : Bool) (lo : Int) (az : Option Addr) (nz : Nat) (cz : Nat) (z : List Int) (aq : Option Addr) (nq : Nat) (cq : Nat) (q : List Int) (w : World) (rz : RdI az nz z w) (rq : RdI aq nq q w) (hlea : lea = 2) (hlo : lo ≠ 3) (hzl : z.length ≤ 1000) (hmo : mo = 2) (har : Iso.areP (z ++ q)) (hq5 : q.length = 5) :
  Calls Try.prog 114 #[.agg #[.int .i64 ho, .int .i64 lea, .int .i64 mo, .int .i64 bo, .bool hi, .int .i64 lo], .slice az nz cz, .slice aq nq cq] w (Ret fun v w' => v = .int .i64 (Hd.loN lo z q) ∧ Ext w w') := by
 have kz : Kn w none_ [] (RdI az nz z) := fun w' hs => rz.ext hs.upd
 have lz : z.length = nz := rz.1
 have mz : nz ≤ 9223372036854775807 := rz.2.1
 have kq : Kn w none_ [] (RdI aq nq q) := fun w' hs => rq.ext hs.upd
 have lq : q.length = nq := rq.1
 have mq : nq ≤ 9223372036854775807 := rq.2.1
 subst hlea; subst hmo
 refine fn (M := none_) (rs := [.tmp 6]) Try.func114 rfl Try.ntmps114 rfl rfl (Sep.start _ _) ?_
 refine hSeq ?_
 refine hReg (sl 0 (sq 1 sz)) (by kernel_rfl) ?_
 refine box trv1 rfl rfl rfl rfl (fun bkb1 hbkb1 => ?_)
 refine asI rfl rfl rfl ?_
 refine rNil ?_
 refine qSeq rfl ?_
 refine hSeq ?_
 refine hReg (sl 0 (sl 1 sz)) (by kernel_rfl) ?_
 refine alc Try.zeroValue2 rfl trv1 rfl rfl (fun bka2 hbka2 => ?_)
 refine stl (v := .int .i64 _) 0 rfl Try.sizeOf2 trv rfl rfl rfl rfl rfl (Nat.le_of_ble_eq_true rfl) ?_
 refine rNil ?_
 refine qSeq rfl ?_
 refine hSeq ?_
 refine hSeq ?_
 refine hReg (sl 0 (sq 1 (sq 2 (sl 3 sz)))) (by kernel_rfl) ?_
 refine ldAl Try.isAgg109 Try.sizeOf109 (cBs 1 rfl) trv rfl rfl rfl rfl ?_
 refine mvS rfl rfl rfl ?_
 refine mvS rfl rfl rfl ?_
 refine callS Try.call139 trv1 rfl rfl (fun w hs => impl_handsIn_c _ _ _ _ _ _ _ _ _ _ _ _ _ _ w (Kn.drop (k := 2) kz w hs) (Kn.drop (k := 2) kq w hs)) ?_
 rintro ⟨bv1, bh1, bb1⟩ hr1
 refine rPieces (L' := [blk bv1 109 [.int .i64 ho, .int .i64 (2 : Int), .int .i64 (2 : Int), .int .i64 bo, .bool hi, .int .i64 lo], blk bh1 23 [.slice az nz cz], blk bb1 23 [.slice aq nq cq], blk bka2 2 [.int .i64 (-1)], blk bkb1 109 [.int .i64 ho, .int .i64 2, .int .i64 2, .int .i64 bo, .bool hi, .int .i64 lo]]) (fun _ h => h) ?_
 refine rVal (v' := .func (.func 157) #[] #[.pointer (some ⟨bv1, 0, none⟩), .pointer (some ⟨bh1, 0, none⟩), .pointer (some ⟨bb1, 0, none⟩)]) rfl ?_
 refine rNil ?_
 refine qSeq rfl ?_
 refine hBlk ?_
 refine hRange (γ := Int) (gf := 157) (Hd.hands z q) (fun b => [blk bka2 2 [.int .i64 b]]) (fun b => [blk bka2 2 [.int .i64 b]]) (fun pre b => b = Hd.lowF pre) (fun pre b => False) (-1) [blk bv1 109 [.int .i64 ho, .int .i64 (2 : Int), .int .i64 (2 : Int), .int .i64 bo, .bool hi, .int .i64 lo], blk bh1 23 [.slice az nz cz], blk bb1 23 [.slice aq nq cq], blk bkb1 109 [.int .i64 ho, .int .i64 2, .int .i64 2, .int .i64 bo, .bool hi, .int .i64 lo]] (by decide) rfl Try.call157 (fun _ h => h.pick [0, 0, 0, 1, 0]) rfl (fun w M1 hk => impl_handsIn_1_it bv1 ho bo hi lo bh1 az nz cz z bb1 aq nq cq q w M1 (hk _ ((Kn.at_ 0 rfl).imp fun _ h => RdB.of h)) (hk _ ((Kn.at_ 1 rfl).imp fun _ h => RdB.of h)) (hk _ (Kn.nil kz)) (hk _ ((Kn.at_ 2 rfl).imp fun _ h => RdB.of h)) (hk _ (Kn.nil kq)) (by omega) (by omega)) ?_ ?_ ?_
 ·
  rintro l1 rc1 hrc1 pre1 xs1 b ax1 nx1 cx1 wR1 MR1 hok1 hpre1 hk1 hrd1
  have f1 := hk1 _ (Kn.nil kz)
  have f2 := hk1 _ (Kn.nil kq)
  have f3 := hk1 _ ((Kn.at_ 3 rfl).imp fun _ h => RdB.of (bk := bkb1) (e := 109) (cs := [.int .i64 ho, .int .i64 2, .int .i64 2, .int .i64 bo, .bool hi, .int .i64 lo]) h)
  have f4 := hk1 _ ((Kn.at_ 0 rfl).imp fun _ h => RdB.of (bk := bv1) (e := 109) (cs := [.int .i64 ho, .int .i64 (2 : Int), .int .i64 (2 : Int), .int .i64 bo, .bool hi, .int .i64 lo]) h)
  have f5 := hk1 _ ((Kn.at_ 1 rfl).imp fun _ h => RdB.of (bk := bh1) (e := 23) (cs := [.slice az nz cz]) h)
  have f6 := hk1 _ ((Kn.at_ 2 rfl).imp fun _ h => RdB.of (bk := bb1) (e := 23) (cs := [.slice aq nq cq]) h)
  have hh1 := Hd.hands_ok har (Hd.pre_mem hpre1)
  have hh2 := hh1.1
  have hh3 := hh1.2
  have hh4 := Hd.okP hh1.1
  refine hReg (sq 0 sz) (by kernel_rfl) ?_
  refine asS rfl rfl rfl ?_
  refine rNil ?_
  refine qAsn rfl hrc1 rfl ?_
  refine hBlk ?_
  refine hSeq ?_
  refine hReg (sl 0 (sq 1 (sl 2 (sq 3 sz)))) (by kernel_rfl) ?_
  refine ldAl Try.isAgg109 Try.sizeOf109 (cDp (m := 6) (Kn.drop (k := 2) f3) rfl) trv rfl rfl rfl rfl ?_
  refine mvS rfl rfl rfl ?_
  refine callP (v := .int .i64 (Hd.aceN xs1)) Try.call140 trv rfl rfl (fun w hs => impl_lowValue_c _ _ _ _ _ _ _ _ _ _ w (Kn.drop (k := 2) hrd1 w hs) (by omega) (by assumption) (by omega)) ?_
  refine asI rfl rfl rfl ?_
  refine rNil ?_
  refine qSeq rfl ?_
  refine hSeq ?_
  refine hReg (sl 0 (sq 1 (sq 2 (sq 3 (sl 4 (sq 5 (sq 6 sz))))))) (by kernel_rfl) ?_
  refine ldl Try.isAgg2 (cB 1 rfl rfl) trv rfl rfl rfl ?_
  refine lss rfl rfl rfl rfl ?_
  refine mvB rfl rfl rfl ?_
  refine rBoolD (d := 20) rfl (fun g1 => ?_) (fun g1 => ?_)
  ·
   replace g1 : b < 0 := g1
   refine rSkipQ rfl rfl ?_
   refine rSkipL trv rfl rfl ?_
   refine rSkipQ rfl rfl ?_
   refine pickB rfl rfl rfl rfl ?_
   refine rNil ?_
   refine qSeq rfl ?_
   refine hIfT rfl ?_
   refine hReg (sq 0 (sl 1 sz)) (by kernel_rfl) ?_
   refine mvI rfl rfl rfl ?_
   refine stl (v := .int .i64 _) 1 rfl Try.sizeOf2 trv rfl rfl rfl rfl rfl (Nat.le_of_ble_eq_true rfl) ?_
   refine rNil ?_
   exact qRnd rfl hrc1 (Hd.aceN xs1) (by rw [Hd.lowF_snoc, ← hok1]; repeat (first | rfl | rw [if_pos (by omega)] | rw [if_neg (by omega)])) (fun _ h => h.pick [0, 0])
  ·
   replace g1 : ¬ (b < 0) := g1
   refine mvI rfl rfl rfl ?_
   refine ldl Try.isAgg2 (cB 1 rfl rfl) trv rfl rfl rfl ?_
   refine lss rfl rfl rfl rfl ?_
   refine pickB rfl rfl rfl rfl ?_
   refine rNil ?_
   refine qSeq rfl ?_
   refine hIfD rfl (fun c2 => ?_) (fun c2 => ?_)
   ·
    replace c2 : (Hd.aceN xs1) < b := c2
    refine hReg (sq 0 (sl 1 sz)) (by kernel_rfl) ?_
    refine mvI rfl rfl rfl ?_
    refine stl (v := .int .i64 _) 1 rfl Try.sizeOf2 trv rfl rfl rfl rfl rfl (Nat.le_of_ble_eq_true rfl) ?_
    refine rNil ?_
    exact qRnd rfl hrc1 (Hd.aceN xs1) (by rw [Hd.lowF_snoc, ← hok1]; repeat (first | rfl | rw [if_pos (by omega)] | rw [if_neg (by omega)])) (fun _ h => h.pick [0, 0])
   ·
    replace c2 : ¬ ((Hd.aceN xs1) < b) := c2
    refine hSkip ?_
    exact qRnd rfl hrc1 b (by rw [Hd.lowF_snoc, ← hok1]; repeat (first | rfl | rw [if_pos (by omega)] | rw [if_neg (by omega)])) (fun _ h => h.pick [0, 0])
 ·
  rintro D1 b hend1
  have hlb : Hd.loN lo z q = Hd.eight lo b := by unfold Hd.loN; rw [hend1]
  refine qSeq rfl ?_
  refine hSeq ?_
  refine hSeq ?_
  refine hReg (sq 0 (sl 1 (sq 2 (sq 3 (sl 4 (sl 5 (sq 6 (sq 7 sz)))))))) (by kernel_rfl) ?_
  refine fld fl109_5 rfl rfl rfl ?_
  refine ldl Try.isAgg2 (cB 4 rfl rfl) trv rfl rfl rfl ?_
  refine eql rfl rfl rfl rfl ?_
  refine mvB rfl rfl rfl ?_
  refine rBoolD (d := 29) rfl (fun g3 => ?_) (fun g3 => ?_)
  ·
   replace g3 : lo = 1 := g3
   refine ldl Try.isAgg2 (cB 5 rfl rfl) trv rfl rfl rfl ?_
   refine callP (v := .bool (decide (0 ≤ b ∧ b ≤ 228487))) Try.call141 trv rfl rfl (fun w hs => impl_IsEightOrBetter_c _ w ) ?_
   refine notD rfl rfl rfl ?_
   refine pickB rfl rfl rfl rfl ?_
   refine rNil ?_
   refine qSeq rfl ?_
   refine hIfD rfl (fun c4 => ?_) (fun c4 => ?_)
   ·
    replace c4 : ¬ (0 ≤ b ∧ b ≤ 228487) := c4
    refine hSeq ?_
    refine hReg (sq 0 sz) (by kernel_rfl) ?_
    refine asI rfl rfl rfl ?_
    refine rNil ?_
    refine qSeq rfl ?_
    refine hRet ?_
    exact Kn.leave 0 rfl <| fun w hs => ⟨[.int .i64 (-1)], ⟨rfl, trivial⟩, ⟨by first | exact vI (by rw [hlb]; unfold Hd.eight; repeat (first | rfl | rw [if_pos (by omega)] | rw [if_neg (by omega)])), hs.upd⟩⟩
   ·
    replace c4 : ¬ (¬ (0 ≤ b ∧ b ≤ 228487)) := c4
    refine hSkip ?_
    refine qSeq rfl ?_
    refine hSeq ?_
    refine hReg (sl 0 (sq 1 sz)) (by kernel_rfl) ?_
    refine ldl Try.isAgg2 (cB 5 rfl rfl) trv rfl rfl rfl ?_
    refine asI rfl rfl rfl ?_
    refine rNil ?_
    refine qSeq rfl ?_
    refine hRet ?_
    exact Kn.leave 0 rfl <| fun w hs => ⟨[.int .i64 b], ⟨rfl, trivial⟩, ⟨by first | exact vI (by rw [hlb]; unfold Hd.eight; repeat (first | rfl | rw [if_pos (by omega)] | rw [if_neg (by omega)])), hs.upd⟩⟩
  ·
   replace g3 : ¬ (lo = 1) := g3
   refine rSkipL trv rfl rfl ?_
   refine rSkipL trv rfl rfl ?_
   refine rSkipQ rfl rfl ?_
   refine pickB rfl rfl rfl rfl ?_
   refine rNil ?_
   refine qSeq rfl ?_
   refine hIfF rfl ?_
   refine hSkip ?_
   refine qSeq rfl ?_
   refine hSeq ?_
   refine hReg (sl 0 (sq 1 sz)) (by kernel_rfl) ?_
   refine ldl Try.isAgg2 (cB 5 rfl rfl) trv rfl rfl rfl ?_
   refine asI rfl rfl rfl ?_
   refine rNil ?_
   refine qSeq rfl ?_
   refine hRet ?_
   exact Kn.leave 0 rfl <| fun w hs => ⟨[.int .i64 b], ⟨rfl, trivial⟩, ⟨by first | exact vI (by rw [hlb]; unfold Hd.eight; repeat (first | rfl | rw [if_pos (by omega)] | rw [if_neg (by omega)])), hs.upd⟩⟩
 ·
  exact fun _ _ _ _ h => h.elim
theorem impl_highIn_c (ho : Int) (lea : Int) (mo : Int) (bo : Int) (hi : Bool) (lo : Int) (az : Option Addr) (nz : Nat) (cz : Nat) (z : List Int) (aq : Option Addr) (nq : Nat) (cq : Nat) (q : List Int) (w : World) (rz : RdI az nz z w) (rq : RdI aq nq q w) (hle : (lea = 0 ∧ ho = 2 ∧ z.length = 2) ∨ (lea = 2 ∧ ho = 4)) (hzl : z.length ≤ 1000) (hbo : bo = 5) (hmo : mo = 2) (har : Iso.areP (z ++ q)) (hq5 : q.length = 5) :
  Calls Try.prog 113 #[.agg #[.int .i64 ho, .int .i64 lea, .int .i64 mo, .int .i64 bo, .bool hi, .int .i64 lo], .slice az nz cz, .slice aq nq cq] w (Ret fun v w' => v = .int .i64 (Hd.hiN lea z q) ∧ Ext w w') := by
 have kz : Kn w none_ [] (RdI az nz z) := fun w' hs => rz.ext hs.upd
 have lz : z.length = nz := rz.1
 have mz : nz ≤ 9223372036854775807 := rz.2.1
 have kq : Kn w none_ [] (RdI aq nq q) := fun w' hs => rq.ext hs.upd
 have lq : q.length = nq := rq.1
 have mq : nq ≤ 9223372036854775807 := rq.2.1
 subst hmo; subst hbo
 have hfl : [z, q].flatten = z ++ q := by simp
 have hfz : [z, q].flatten.length = z.length + q.length := by rw [hfl, List.length_append]
 have hfa : Iso.areP [z, q].flatten := by rw [hfl]; exact har
 refine fn (M := none_) (rs := [.tmp 6]) Try.func113 rfl Try.ntmps113 rfl rfl (Sep.start _ _) ?_
 refine hSeq ?_
 refine hReg (sl 0 (sq 1 sz)) (by kernel_rfl) ?_
 refine box trv1 rfl rfl rfl rfl (fun bkb1 hbkb1 => ?_)
 refine asI rfl rfl rfl ?_
 refine rNil ?_
 refine qSeq rfl ?_
 refine hSeq ?_
 refine hSeq ?_
 refine hReg (sq 0 (sl 1 (sq 2 (sq 3 (sq 4 (sl 5 (sq 6 (sl 7 (sq 8 (sq 9 (sq 10 (sq 11 (sq 12 (sl 13 (sq 14 (sq 15 sz)))))))))))))))) (by kernel_rfl) ?_
 refine fld fl109_1 rfl rfl rfl ?_
 refine ldl Try.isAgg2 (cB 0 rfl rfl) trv rfl rfl rfl ?_
 refine eql rfl rfl rfl rfl ?_
 refine mvB rfl rfl rfl ?_
 refine rBoolD (d := 12) rfl (fun g1 => ?_) (fun g1 => ?_)
 ·
  replace g1 : lea = 0 := g1
  refine fld fl109_2 rfl rfl rfl ?_
  refine ldl Try.isAgg2 (cB 0 rfl rfl) trv rfl rfl rfl ?_
  refine fld fl109_0 rfl rfl rfl ?_
  refine ldl Try.isAgg2 (cB 0 rfl rfl) trv rfl rfl rfl ?_
  refine min2 rfl rfl rfl rfl ?_
  refine eql rfl rfl rfl rfl ?_
  refine pickB rfl rfl rfl rfl ?_
  refine mvB rfl rfl rfl ?_
  refine rBoolD (d := 20) rfl (fun g2 => ?_) (fun g2 => ?_)
  ·
   replace g2 : 2 = (min ho 5) := g2
   refine rSkipQ rfl rfl ?_
   refine rSkipL trv rfl rfl ?_
   refine rSkipQ rfl rfl ?_
   refine pickB rfl rfl rfl rfl ?_
   refine rNil ?_
   refine qSeq rfl ?_
   refine hIfT rfl ?_
   refine hSeq ?_
   refine hReg (sq 0 (sq 1 (sl 2 (sl 3 (sl 4 (sq 5 sz)))))) (by kernel_rfl) ?_
   refine mvS rfl rfl rfl ?_
   refine mvS rfl rfl rfl ?_
   refine bsl trv1 rfl rfl rfl (bsl22_2 (.slice _ _ _) (.slice _ _ _) rfl rfl) (fun bkl2 hbkl2 => ?_)
   refine callS Try.call97 trv1 rfl rfl (fun w hs => slices_Concat_int64_int64_c _ 2 2 _ _ w (RdR.lit2 (hs.at_ 0 rfl) (Kn.drop (k := 2) kz w hs) (Kn.drop (k := 2) kq w hs)) (by omega)) ?_
   rintro ⟨ay1, ny1, cy1, y1⟩ hr1
   dsimp only at hr1
   subst y1
   refine rPieces (L' := [OwnI 2 ay1 ny1 cy1 ([z, q].flatten), blk bkl2 23 [.slice az nz cz, .slice aq nq cq], blk bkb1 109 [.int .i64 ho, .int .i64 lea, .int .i64 2, .int .i64 5, .bool hi, .int .i64 lo]]) (fun _ h => h) ?_
   refine rKnow (fun w hs => (show OwnI 2 ay1 ny1 cy1 ([z, q].flatten) w from hs.at_ 0 rfl).lenz) (fun lenn3 => ?_)
   refine rVal (v' := .slice ay1 ny1 cy1) rfl ?_
   refine callP (v := .int .i64 ((Hd.valN ([z, q].flatten) true))) Try.call138 trv rfl rfl (fun w hs => impl_valueOf_c _ ny1 cy1 _ _ w (OwnI.rd (hs.at_ 0 rfl)) (by assumption) (by first | assumption | omega)) ?_
   refine asI rfl rfl rfl ?_
   refine rNil ?_
   refine qSeq rfl ?_
   refine hRet ?_
   exact fun w hs => ⟨[.int .i64 ((Hd.valN ([z, q].flatten) true))], ⟨rfl, trivial⟩, ⟨by first | exact vI (by unfold Hd.hiN; rw [if_pos (by omega)]; simp) | exact vI (by unfold Hd.hiN; rw [if_neg (by omega), hend1]), hs.upd⟩⟩
  ·
   replace g2 : ¬ (2 = (min ho 5)) := g2
   exfalso; omega
 ·
  replace g1 : ¬ (lea = 0) := g1
  obtain rfl : lea = 2 := by omega
  refine rSkipQ rfl rfl ?_
  refine rSkipL trv rfl rfl ?_
  refine rSkipQ rfl rfl ?_
  refine rSkipL trv rfl rfl ?_
  refine rSkipQ rfl rfl ?_
  refine rSkipQ rfl rfl ?_
  refine pickB rfl rfl rfl rfl ?_
  refine mvB rfl rfl rfl ?_
  refine fld fl109_3 rfl rfl rfl ?_
  refine ldl Try.isAgg2 (cB 0 rfl rfl) trv rfl rfl rfl ?_
  refine eql rfl rfl rfl rfl ?_
  refine pickB rfl rfl rfl rfl ?_
  refine rNil ?_
  refine qSeq rfl ?_
  refine hIfF rfl ?_
  refine hSkip ?_
  refine qSeq rfl ?_
  refine hSeq ?_
  refine hReg (sl 0 (sl 1 sz)) (by kernel_rfl) ?_
  refine alc Try.zeroValue2 rfl trv1 rfl rfl (fun bka4 hbka4 => ?_)
  refine stl (v := .int .i64 _) 0 rfl Try.sizeOf2 trv rfl rfl rfl rfl rfl (Nat.le_of_ble_eq_true rfl) ?_
  refine rNil ?_
  refine qSeq rfl ?_
  refine hSeq ?_
  refine hSeq ?_
  refine hReg (sl 0 (sq 1 (sq 2 (sl 3 sz)))) (by kernel_rfl) ?_
  refine ldAl Try.isAgg109 Try.sizeOf109 (cBs 1 rfl) trv rfl rfl rfl rfl ?_
  refine mvS rfl rfl rfl ?_
  refine mvS rfl rfl rfl ?_
  refine callS Try.call139 trv1 rfl rfl (fun w hs => impl_handsIn_c _ _ _ _ _ _ _ nz cz _ _ nq cq _ w (Kn.drop (k := 2) kz w hs) (Kn.drop (k := 2) kq w hs)) ?_
  rintro ⟨bv2, bh2, bb2⟩ hr2
  refine rPieces (L' := [blk bv2 109 [.int .i64 ho, .int .i64 (2), .int .i64 (2 : Int), .int .i64 (5 : Int), .bool hi, .int .i64 lo], blk bh2 23 [.slice az nz cz], blk bb2 23 [.slice aq nq cq], blk bka4 2 [.int .i64 (-1)], blk bkb1 109 [.int .i64 ho, .int .i64 (2), .int .i64 2, .int .i64 5, .bool hi, .int .i64 lo]]) (fun _ h => h) ?_
  refine rVal (v' := .func (.func 157) #[] #[.pointer (some ⟨bv2, 0, none⟩), .pointer (some ⟨bh2, 0, none⟩), .pointer (some ⟨bb2, 0, none⟩)]) rfl ?_
  refine rNil ?_
  refine qSeq rfl ?_
  refine hBlk ?_
  refine hRange (γ := Int) (gf := 157) (Hd.hands z q) (fun b => [blk bka4 2 [.int .i64 b]]) (fun b => [blk bka4 2 [.int .i64 b]]) (fun pre b => b = Hd.best pre) (fun pre b => False) (-1) [blk bv2 109 [.int .i64 ho, .int .i64 (2), .int .i64 (2 : Int), .int .i64 (5 : Int), .bool hi, .int .i64 lo], blk bh2 23 [.slice az nz cz], blk bb2 23 [.slice aq nq cq], blk bkb1 109 [.int .i64 ho, .int .i64 (2), .int .i64 2, .int .i64 5, .bool hi, .int .i64 lo]] (by decide) rfl Try.call157 (fun _ h => h.pick [0, 0, 0, 1, 0]) rfl (fun w M1 hk => impl_handsIn_1_it bv2 ho (5 : Int) hi lo bh2 az nz cz z bb2 aq nq cq q w M1 (hk _ ((Kn.at_ 0 rfl).imp fun _ h => RdB.of h)) (hk _ ((Kn.at_ 1 rfl).imp fun _ h => RdB.of h)) (hk _ (Kn.nil kz)) (hk _ ((Kn.at_ 2 rfl).imp fun _ h => RdB.of h)) (hk _ (Kn.nil kq)) (by omega) (by omega)) ?_ ?_ ?_
  ·
   rintro l1 rc1 hrc1 pre1 xs1 b ax1 nx1 cx1 wR1 MR1 hok1 hpre1 hk1 hrd1
   have f1 := hk1 _ (Kn.nil kz)
   have f2 := hk1 _ (Kn.nil kq)
   have f3 := hk1 _ ((Kn.at_ 3 rfl).imp fun _ h => RdB.of (bk := bkb1) (e := 109) (cs := [.int .i64 ho, .int .i64 (2), .int .i64 2, .int .i64 5, .bool hi, .int .i64 lo]) h)
   have f4 := hk1 _ ((Kn.at_ 0 rfl).imp fun _ h => RdB.of (bk := bv2) (e := 109) (cs := [.int .i64 ho, .int .i64 (2), .int .i64 (2 : Int), .int .i64 (5 : Int), .bool hi, .int .i64 lo]) h)
   have f5 := hk1 _ ((Kn.at_ 1 rfl).imp fun _ h => RdB.of (bk := bh2) (e := 23) (cs := [.slice az nz cz]) h)
   have f6 := hk1 _ ((Kn.at_ 2 rfl).imp fun _ h => RdB.of (bk := bb2) (e := 23) (cs := [.slice aq nq cq]) h)
   have hh1 := Hd.hands_ok har (Hd.pre_mem hpre1)
   have hh2 := hh1.1
   have hh3 := hh1.2
   have hh4 := Hd.okP hh1.1
   refine hReg (sq 0 sz) (by kernel_rfl) ?_
   refine asS rfl rfl rfl ?_
   refine rNil ?_
   refine qAsn rfl hrc1 rfl ?_
   refine hBlk ?_
   refine hDraw (Ls := [blk bka4 2 [.int .i64 b]]) (by kernel_rfl) (sq 0 (sq 1 (sl 2 (sq 3 (sf 4 sz))))) (by kernel_rfl) (.cons _ (.cons_cons _ .slnil)) ?_
   refine ldq Try.isAgg2 (cB 0 rfl rfl) rfl rfl rfl ?_
   refine mvS rfl rfl rfl ?_
   refine callP (v := .int .i64 (Hd.valN xs1 true)) Try.call138 (fun _ h => h.pick [1]) rfl rfl (fun w hs => impl_valueOf_c _ nx1 cx1 _ _ w (Kn.drop (k := 2) hrd1 w hs) (by assumption) (by first | assumption | omega)) ?_
   refine max2 rfl rfl rfl rfl ?_
   refine stf (v := .int .i64 _) 1 rfl Try.sizeOf2 rfl rfl rfl rfl rfl (Nat.le_of_ble_eq_true rfl) ?_
   refine rNil ?_
   exact qRnd rfl hrc1 ((max b (Hd.valN xs1 true))) (by rw [Hd.best_snoc, ← hok1]) (fun _ h => h.pick [0, 0])
  ·
   rintro D1 b hend1
   refine qSeq rfl ?_
   refine hSeq ?_
   refine hReg (sl 0 (sq 1 sz)) (by kernel_rfl) ?_
   refine ldl Try.isAgg2 (cB 5 rfl rfl) trv rfl rfl rfl ?_
   refine asI rfl rfl rfl ?_
   refine rNil ?_
   refine qSeq rfl ?_
   refine hRet ?_
   exact Kn.leave 0 rfl <| fun w hs => ⟨[.int .i64 b], ⟨rfl, trivial⟩, ⟨by first | exact vI (by unfold Hd.hiN; rw [if_pos (by omega)]; simp) | exact vI (by unfold Hd.hiN; rw [if_neg (by omega), hend1]), hs.upd⟩⟩
  ·
   exact fun _ _ _ _ h => h.elim
end Go.Proofs.Yteaahdakammffaa
