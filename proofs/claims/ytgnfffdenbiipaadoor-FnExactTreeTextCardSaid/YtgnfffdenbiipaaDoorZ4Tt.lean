/- Plain facts: texts of trees. No condition. -/
import Derived.Test.YtgnfffdenbiipaaDoorZ3Tt
import Derived.Test.YtgnfffdenbiipaaDoorZ1Tt
import Derived.Test.YtgnfffdenbiipaaDoorZ2Tt
import Derived.Test.YtgnfffdenbiipaaDoorRows
import Derived.Stop.LaidErr
namespace Go.Proofs.YtgnfffdenbiipaaDoor.Math
open Go.Proofs.YtgnfffdenbiipaaDoor.V
set_option linter.unusedVariables false
theorem dmax_ge' {z : List Nd} {l : List Int} : ∀ {c : Int}, c ∈ l → depth z c.toNat ≤ dmax z l := by
  have key : ∀ (l : List Int) (m : Int), m ≤ l.foldl (fun m c => max m (depth z c.toNat)) m ∧ ∀ c ∈ l, depth z c.toNat ≤ l.foldl (fun m c => max m (depth z c.toNat)) m := by
    intro l
    induction l with
    | nil => intro m; exact ⟨Int.le_refl _, fun c h => by cases h⟩
    | cons d l ih =>
      intro m
      have h := ih (max m (depth z d.toNat))
      refine ⟨?_, fun c hc => ?_⟩
      · show m ≤ l.foldl _ (max m (depth z d.toNat)); omega
      · show depth z c.toNat ≤ l.foldl _ (max m (depth z d.toNat))
        rcases List.mem_cons.1 hc with rfl | hc
        · omega
        · exact h.2 c hc
  exact fun {c} hc => (key l 0).2 c hc
/-- How the text of a node begins. -/
def headT (x : Nd) : List UInt8 := if x.pl = 2 then (if x.fo < 0 then [40, 115] else [40, 102] ++ dec x.fo) else [40, 112] ++ dec x.pl
def openT (x : Nd) : List UInt8 := headT x ++ ([32] ++ dec x.p0 ++ [47] ++ dec x.p1)
def textF (z : List Nd) : Nat → Int → List UInt8
  | 0, _ => []
  | f + 1, v => openT (z.getD v.toNat dN) ++ ((z.getD v.toNat dN).ch.map fun c => textF z f c).flatten ++ [41]
def text (z : List Nd) (v : Int) : List UInt8 := textF z z.length v
def textTo (z : List Nd) (v : Int) (i : Nat) : List UInt8 := openT (z.getD v.toNat dN) ++ (((z.getD v.toNat dN).ch.take i).map fun c => text z c).flatten
theorem textF_same {z : List Nd} (hok : allOk z = true) : ∀ f f' (v : Int), 0 ≤ v → v < z.length → z.length - v.toNat ≤ f → z.length - v.toNat ≤ f' → textF z f v = textF z f' v := by
  intro f
  induction f with
  | zero => intro f' v h0 h1 h2 h3; omega
  | succ f ih =>
    intro f' v h0 h1 h2 h3
    cases f' with
    | zero => omega
    | succ f' =>
      simp only [textF]
      congr 2
      congr 1
      refine List.map_congr_left fun c hc => ?_
      have := ok_kid (allOk_iff.1 hok v.toNat (by omega)) hc
      exact ih f' c (by omega) (by omega) (by omega) (by omega)
theorem text_step {z : List Nd} (hok : allOk z = true) {v : Int} (hv : 0 ≤ v ∧ v < z.length) {i : Nat} (hi : i = (z.getD v.toNat dN).ch.length) : text z v = textTo z v i ++ [41] := by
  have h1 : text z v = textF z (z.length + 1) v := textF_same hok _ _ v hv.1 hv.2 (by omega) (by omega)
  rw [h1]
  unfold textTo
  rw [hi, List.take_of_length_le (Nat.le_refl _)]
  rfl
theorem textTo_s {z : List Nd} {v : Int} {i : Nat} (h : i < (z.getD v.toNat dN).ch.length) : textTo z v (i + 1) = textTo z v i ++ text z ((z.getD v.toNat dN).ch.getD i 0) := by
  unfold textTo
  rw [take_step 0 h, List.map_append, List.flatten_append, List.append_assoc]
  simp
theorem openT_len {x : Nd} (h0 : 0 ≤ x.pl ∧ x.pl ≤ 2) (h1 : 0 ≤ x.p0 ∧ x.p0 ≤ 100) (h2 : 0 ≤ x.p1 ∧ x.p1 ≤ 100) (h3 : -1 ≤ x.fo ∧ x.fo ≤ 1) : (openT x).length ≤ 13 := by
  have a := dec_len3 (n := x.p0) (by omega)
  have b := dec_len3 (n := x.p1) (by omega)
  have c := dec_len3 (n := x.fo) (by omega)
  have d := dec_len3 (n := x.pl) (by omega)
  unfold openT headT
  split
  · split <;> (simp only [List.length_append, List.length_cons, List.length_nil]; omega)
  · simp only [List.length_append, List.length_cons, List.length_nil]; omega
theorem flat_len {α : Type} (f : α → List UInt8) (B : Nat) : ∀ l : List α, (∀ x ∈ l, (f x).length ≤ B) → ((l.map f).flatten).length ≤ B * l.length
  | [], _ => by simp
  | x :: l, h => by
    have h1 := flat_len f B l fun y hy => h y (List.mem_cons_of_mem _ hy)
    have h2 := h x (List.mem_cons_self ..)
    rw [List.map_cons, List.flatten_cons, List.length_append, List.length_cons, Nat.mul_succ]; omega
theorem textF_len {z : List Nd} (hok : allOk z = true) : ∀ (f d : Nat) (v : Int), 0 ≤ v → v < z.length → z.length - v.toNat ≤ f → (depth z v.toNat) ≤ (d : Int) → (textF z f v).length ≤ 20 * 5 ^ d
  | 0, d, v, h0, h1, h2, _ => by omega
  | f + 1, d, v, h0, h1, h2, hd => by
    have ho := ok_pl (allOk_iff.1 hok v.toNat (by omega))
    have hh := openT_len ho.1 ho.2.1 ho.2.2.1 ho.2.2.2.1
    simp only [textF]
    rw [List.length_append, List.length_append, List.length_singleton]
    by_cases hp : (z.getD v.toNat dN).pl = 2
    · have hc := ho.2.2.2.2.2.1 hp
      have hn : (z.getD v.toNat dN).ch = [] := List.eq_nil_of_length_eq_zero hc
      rw [hn]
      have : 1 ≤ 5 ^ d := Nat.one_le_pow _ _ (by decide)
      simp only [List.map_nil, List.flatten_nil, List.length_nil]; omega
    · have hs := depth_step hok (i := v.toNat) (by omega) hp
      have hk : ∀ c ∈ (z.getD v.toNat dN).ch, depth z c.toNat + 1 ≤ depth z v.toNat := fun c hc => by
        rw [hs]
        have : depth z c.toNat ≤ dmax z (z.getD v.toNat dN).ch := dmax_ge' hc
        omega
      have hd1 : 1 ≤ d := by
        have h3 := ho.2.2.2.2.2
        rcases Nat.eq_zero_or_pos (z.getD v.toNat dN).ch.length with h4 | h4
        · exact absurd (h3.2 h4) hp
        · have hm := getD_mem 0 h4
          have hck := ok_kid (allOk_iff.1 hok v.toNat (by omega)) hm
          have := hk _ hm
          have := depth_bd' rfl hok (i := ((z.getD v.toNat dN).ch.getD 0 0).toNat) (by omega)
          omega
      have hfl := flat_len (fun c => textF z f c) (20 * 5 ^ (d - 1)) (z.getD v.toNat dN).ch fun c hc => by
        have hck := ok_kid (allOk_iff.1 hok v.toNat (by omega)) hc
        have := hk c hc
        exact textF_len hok f (d - 1) c (by omega) (by omega) (by omega) (by omega)
      have h4 : 20 * 5 ^ (d - 1) * (z.getD v.toNat dN).ch.length ≤ 20 * 5 ^ (d - 1) * 4 := Nat.mul_le_mul_left _ ho.2.2.2.2.1
      have h5 : 5 ^ d = 5 ^ (d - 1) * 5 := by rw [← Nat.pow_succ]; congr 1; omega
      have h6 : 1 ≤ 5 ^ (d - 1) := Nat.one_le_pow _ _ (by decide)
      omega
theorem text_len {z : List Nd} (ht : isTree z = true) {v : Int} (hv : 0 ≤ v ∧ v < z.length) (hd : depth z v.toNat ≤ 5) : (text z v).length ≤ 62500 := by
  have hT := isTree_ok ht
  have := textF_len hT.2.1 z.length 5 v hv.1 hv.2 (by omega) hd
  exact this
theorem textTo_len {z : List Nd} (ht : isTree z = true) {v : Int} (hv : 0 ≤ v ∧ v < z.length) (hd : depth z v.toNat ≤ 5) (i : Nat) : (textTo z v i).length ≤ 250013 := by
  have hT := isTree_ok ht
  have ho := ok_pl (allOk_iff.1 hT.2.1 v.toNat (by omega))
  have hh := openT_len ho.1 ho.2.1 ho.2.2.1 ho.2.2.2.1
  unfold textTo
  rw [List.length_append]
  have hfl := flat_len (fun c => text z c) 62500 ((z.getD v.toNat dN).ch.take i) fun c hc => by
    have hm := List.mem_of_mem_take hc
    have hck := ok_kid (allOk_iff.1 hT.2.1 v.toNat (by omega)) hm
    have hp : ¬ (z.getD v.toNat dN).pl = 2 := fun h => by
      have := List.eq_nil_of_length_eq_zero (ho.2.2.2.2.2.1 h); rw [this] at hm; cases hm
    have hs := depth_step hT.2.1 (i := v.toNat) (by omega) hp
    have : depth z c.toNat ≤ dmax z (z.getD v.toNat dN).ch := dmax_ge' hm
    exact text_len ht ⟨by omega, by omega⟩ (by omega)
  have h4 : ((z.getD v.toNat dN).ch.take i).length ≤ 4 := by rw [List.length_take]; omega
  have h5 : 62500 * ((z.getD v.toNat dN).ch.take i).length ≤ 62500 * 4 := Nat.mul_le_mul_left _ h4
  omega
theorem kid_ok {z : List Nd} (ht : isTree z = true) {v : Int} (hv : 0 ≤ v ∧ v < z.length) (hd : depth z v.toNat ≤ 5) {i : Nat} (hi : i < (z.getD v.toNat dN).ch.length) :
    (v + 1 ≤ (z.getD v.toNat dN).ch.getD i 0 ∧ (z.getD v.toNat dN).ch.getD i 0 < z.length) ∧ depth z ((z.getD v.toNat dN).ch.getD i 0).toNat ≤ 5 := by
  have hT := isTree_ok ht
  have ho := ok_pl (allOk_iff.1 hT.2.1 v.toNat (by omega))
  have hm := getD_mem 0 hi
  have hck := ok_kid (allOk_iff.1 hT.2.1 v.toNat (by omega)) hm
  have hp : ¬ (z.getD v.toNat dN).pl = 2 := fun h => by have := ho.2.2.2.2.2.1 h; omega
  have hs := depth_step hT.2.1 (i := v.toNat) (by omega) hp
  have := dmax_ge' (z := z) hm
  omega
theorem head_p {x : Nd} (h : ¬ x.pl = 2) : headT x = [40, 112] ++ dec x.pl := if_neg h
theorem head_s {x : Nd} (h : x.pl = 2) (h2 : x.fo < 0) : headT x = [40, 115] := by unfold headT; rw [if_pos h, if_pos h2]
theorem head_f {x : Nd} (h : x.pl = 2) (h2 : ¬ x.fo < 0) : headT x = [40, 102] ++ dec x.fo := by unfold headT; rw [if_pos h, if_neg h2]
theorem textTo_0 {z : List Nd} {v : Int} : textTo z v 0 = openT (z.getD v.toNat dN) := by unfold textTo; simp
def textAt (z : List Nd) : List UInt8 × Int := if isTree z = true then (text z 0, 0) else ([], 1)
theorem textAt_0 {z : List Nd} (h : isTree z = true) : textAt z = (text z 0, 0) := if_pos h
theorem textAt_1 {z : List Nd} (h : isTree z = false) : textAt z = ([], 1) := if_neg (by rw [h]; decide)
end Go.Proofs.YtgnfffdenbiipaaDoor.Math
/- Contracts of texts of trees. Their conditions stand in each. -/
namespace Go.Proofs.YtgnfffdenbiipaaDoor
open Go Go.RowKit V
set_option linter.unusedVariables false
set_option linter.unusedSimpArgs false
set_option maxRecDepth 100000
theorem bsl63_1 (v0 : Value) (h0 : v0.cells = #[v0]) : ∀ w, (Instr.buildSlice 63 1 ([(0, v0)] : List (Nat × Value)).toArray).run Tryd.prog w = .ok (.slice (some ⟨w.heap.size, 0, none⟩) 1 1) (w.alloc (.cells ([v0] : List Value).toArray 5)) := by
 intro w; simp [Instr.buildSlice, Instr.fill, Tryd.zeroValue5, Tryd.runUnderlying63, Tryd.sizeOf5, Value.cells_int, newRow, show Array.range 1 = #[0] from by decide, h0]
theorem impl_decimal_c (n : Int) (w : World) (rtab : TabP w) (h0 : 0 ≤ n) (h1 : n ≤ 999) :
  Calls Tryd.prog 46 #[.int .i64 n] w (Ret fun v w' => v = sv (Math.dec n) ∧ Ext w w') := by
 have ktab : Kn w none_ [] (TabP) := fun w' hs => rtab.ext hs.upd
 refine fn (M := none_) (rs := [.tmp 2]) Tryd.func46 rfl Tryd.ntmps46 rfl rfl (Sep.start _ _) ?_
 refine hSeq ?_
 refine hReg (sq 0 sz) (by kernel_rfl) ?_
 refine asn (v := sv []) rfl rfl rfl ?_
 refine rNil ?_
 refine qSeq rfl ?_
 refine hSeq ?_
 refine hReg (sq 0 (sl 1 (sq 2 sz))) (by kernel_rfl) ?_
 refine mvI rfl rfl rfl ?_
 refine callP (v := sv (Math.dec n)) Tryd.call60 trv rfl rfl (fun w hs => formatInt_c _ w (ktab w hs) (by omega) (by omega)) ?_
 refine asn (v := sv (Math.dec n)) rfl rfl rfl ?_
 refine rNil ?_
 refine qSeq rfl ?_
 refine hRet ?_
 exact fun w hs => ⟨[sv (Math.dec n)], ⟨rfl, trivial⟩, ⟨rfl, hs.upd⟩⟩
theorem spec_l01Dec_c_r (kk_ : Nat) : ∀ (n : Int) (w : World), n.toNat = kk_ → (0 ≤ n) → (n ≤ 999) → Calls Tryd.prog 28 #[.int .i64 n] w (Ret fun v w' => v = sv (Math.dec n) ∧ Ext w w') := by
 induction kk_ using Nat.strongRecOn with
 | _ kk_ ih =>
  intro n w hK h0 h1
  refine fn (M := none_) (rs := [.tmp 2]) Tryd.func28 rfl Tryd.ntmps28 rfl rfl (Sep.start _ _) ?_
  refine hSeq ?_
  refine hReg (sq 0 sz) (by kernel_rfl) ?_
  refine asn (v := sv []) rfl rfl rfl ?_
  refine rNil ?_
  refine qSeq rfl ?_
  refine hSeq ?_
  refine hSeq ?_
  refine hReg (sq 0 (sq 1 sz)) (by kernel_rfl) ?_
  refine mvI rfl rfl rfl ?_
  refine lss rfl rfl rfl rfl ?_
  refine rNil ?_
  refine qSeq rfl ?_
  refine hIfD rfl (fun c1 => ?_) (fun c1 => ?_)
  ·
   replace c1 : n < 10 := c1
   refine hSeq ?_
   refine hReg (sq 0 (sq 1 (sq 2 (sl 3 (sl 4 (sq 5 sz)))))) (by kernel_rfl) ?_
   refine mvI rfl rfl rfl ?_
   refine add rfl rfl rfl rfl (by omega) ?_
   refine cnvU8 Tryd.runUnderlying2 Tryd.runUnderlying5 rfl rfl rfl (by omega) ?_
   refine bsl trv1 rfl rfl rfl (bsl63_1 (.int .u8 _) rfl) (fun bkl1 hbkl1 => ?_)
   refine cnvStr [(48 + n)] 0 rfl rfl rfl Tryd.underlying63 Tryd.underlying5 Tryd.underlying9 trv rfl rfl rfl ?_
   refine asn (v := sv (([(48 + n)].map fun z => UInt8.ofNat z.toNat))) rfl rfl rfl ?_
   refine rNil ?_
   refine qSeq rfl ?_
   refine hRet ?_
   exact fun w hs => ⟨[sv (([(48 + n)].map fun z => UInt8.ofNat z.toNat))], ⟨rfl, trivial⟩, ⟨by exact vS (Math.dec_small h0 c1).symm, hs.upd⟩⟩
  ·
   replace c1 : ¬ (n < 10) := c1
   refine hSkip ?_
   refine qSeq rfl ?_
   refine hSeq ?_
   refine hDraw (Ls := []) (by kernel_rfl) (sq 0 (sq 1 (sq 3 (sq 4 (sq 5 (sq 6 (.alt (sl 2 (sl 7 (sl 8 (sq 9 (sq 10 sz))))) (sl 7 (.alt (sl 2 (sl 8 (sq 9 (sq 10 sz)))) (sl 8 (sl 2 (sq 9 (sq 10 sz))))))))))))) (by kernel_rfl) .slnil ?_
   refine mvI rfl rfl rfl ?_
   refine quo rfl rfl rfl rfl (by omega) ?_
   refine mvI rfl rfl rfl ?_
   refine rem rfl rfl rfl rfl (by omega) ?_
   refine add rfl rfl rfl rfl (by omega) ?_
   refine cnvU8 Tryd.runUnderlying2 Tryd.runUnderlying5 rfl rfl rfl (by omega) ?_
   refine rAlt ?_ ?_
   ·
    refine callP (v := sv ((Math.dec (n / 10)))) Tryd.call28 (fun _ h => h.pick []) rfl rfl (fun w hs => ih _ (by omega) _ w rfl (by omega) (by omega)) ?_
    have hslq1 := show (Math.dec (n / 10)).length ≤ 3 from Math.dec_len3 (by omega)
    refine bsl (fun _ _ h => h.pick []) rfl rfl rfl (bsl63_1 (.int .u8 _) rfl) (fun bkl2 hbkl2 => ?_)
    refine cnvStr [(48 + (n % 10))] 0 rfl rfl rfl Tryd.underlying63 Tryd.underlying5 Tryd.underlying9 (fun _ h => h.pick []) rfl rfl rfl ?_
    refine strAdd rfl rfl rfl rfl (by first | (simp only [List.length_append, List.length_cons, List.length_nil, List.length_map]; omega) | omega) ?_
    refine asn (v := sv (((Math.dec (n / 10)) ++ ([(48 + (n % 10))].map fun z => UInt8.ofNat z.toNat)))) rfl rfl rfl ?_
    refine rNil ?_
    refine qSeq rfl ?_
    refine hRet ?_
    exact fun w hs => ⟨[sv (((Math.dec (n / 10)) ++ ([(48 + (n % 10))].map fun z => UInt8.ofNat z.toNat)))], ⟨rfl, trivial⟩, ⟨by exact vS (Math.dec_step c1).symm, hs.upd⟩⟩
   ·
    refine bsl (fun _ _ h => h.pick []) rfl rfl rfl (bsl63_1 (.int .u8 _) rfl) (fun bkl3 hbkl3 => ?_)
    refine rAlt ?_ ?_
    ·
     refine callP (v := sv ((Math.dec (n / 10)))) Tryd.call28 (fun _ h => h.pick []) rfl rfl (fun w hs => ih _ (by omega) _ w rfl (by omega) (by omega)) ?_
     have hslq2 := show (Math.dec (n / 10)).length ≤ 3 from Math.dec_len3 (by omega)
     refine cnvStr [(48 + (n % 10))] 0 rfl rfl rfl Tryd.underlying63 Tryd.underlying5 Tryd.underlying9 (fun _ h => h.pick []) rfl rfl rfl ?_
     refine strAdd rfl rfl rfl rfl (by first | (simp only [List.length_append, List.length_cons, List.length_nil, List.length_map]; omega) | omega) ?_
     refine asn (v := sv (((Math.dec (n / 10)) ++ ([(48 + (n % 10))].map fun z => UInt8.ofNat z.toNat)))) rfl rfl rfl ?_
     refine rNil ?_
     refine qSeq rfl ?_
     refine hRet ?_
     exact fun w hs => ⟨[sv (((Math.dec (n / 10)) ++ ([(48 + (n % 10))].map fun z => UInt8.ofNat z.toNat)))], ⟨rfl, trivial⟩, ⟨by exact vS (Math.dec_step c1).symm, hs.upd⟩⟩
    ·
     refine cnvStr [(48 + (n % 10))] 0 rfl rfl rfl Tryd.underlying63 Tryd.underlying5 Tryd.underlying9 (fun _ h => h.pick []) rfl rfl rfl ?_
     refine callP (v := sv ((Math.dec (n / 10)))) Tryd.call28 (fun _ h => h.pick []) rfl rfl (fun w hs => ih _ (by omega) _ w rfl (by omega) (by omega)) ?_
     have hslq3 := show (Math.dec (n / 10)).length ≤ 3 from Math.dec_len3 (by omega)
     refine strAdd rfl rfl rfl rfl (by first | (simp only [List.length_append, List.length_cons, List.length_nil, List.length_map]; omega) | omega) ?_
     refine asn (v := sv (((Math.dec (n / 10)) ++ ([(48 + (n % 10))].map fun z => UInt8.ofNat z.toNat)))) rfl rfl rfl ?_
     refine rNil ?_
     refine qSeq rfl ?_
     refine hRet ?_
     exact fun w hs => ⟨[sv (((Math.dec (n / 10)) ++ ([(48 + (n % 10))].map fun z => UInt8.ofNat z.toNat)))], ⟨rfl, trivial⟩, ⟨by exact vS (Math.dec_step c1).symm, hs.upd⟩⟩
theorem spec_l01Dec_c (n : Int) (w : World) (h0 : 0 ≤ n) (h1 : n ≤ 999) :
  Calls Tryd.prog 28 #[.int .i64 n] w (Ret fun v w' => v = sv (Math.dec n) ∧ Ext w w') := spec_l01Dec_c_r _ n w rfl h0 h1
set_option maxHeartbeats 1000000 in
theorem spec_l20Text_c_r (kk_ : Nat) : ∀ (az : Option Addr) (nz : Nat) (cz : Nat) (Hz : Nat → Hd) (z : List Nd) (u : Int) (w : World), nz - u.toNat = kk_ → RdR ndK az nz Hz z w → (Math.isTree z = true) → (0 ≤ u ∧ u < nz) → (Math.depth z u.toNat ≤ 5) → Calls Tryd.prog 20 #[.agg #[.slice az nz cz], .int .i64 u] w (Ret fun v w' => v = sv (Math.text z u) ∧ Ext w w') := by
 induction kk_ using Nat.strongRecOn with
 | _ kk_ ih =>
  intro az nz cz Hz z u w hK rz ht hu hd
  have kz : Kn w none_ [] (RdR ndK az nz Hz z) := fun w' hs => rz.ext hs.upd
  have lz : z.length = nz := rz.1
  have mz : nz ≤ 9223372036854775807 := rz.2.1
  have hT := Math.isTree_ok ht
  have ho := Math.ok_pl ((Math.allOk_iff' lz).1 hT.2.1 u.toNat (by omega))
  have hop := Math.openT_len ho.1 ho.2.1 ho.2.2.1 ho.2.2.2.1
  refine fn (M := none_) (rs := [.tmp 4]) Tryd.func20 rfl Tryd.ntmps20 rfl rfl (Sep.start _ _) ?_
  refine hSeq ?_
  refine hReg (sl 0 (sq 1 sz)) (by kernel_rfl) ?_
  refine box trv1 rfl rfl rfl rfl (fun bkb1 hbkb1 => ?_)
  refine asn (v := sv []) rfl rfl rfl ?_
  refine rNil ?_
  refine qSeq rfl ?_
  refine hSeq ?_
  refine hReg (sq 0 (sl 1 (sq 2 (sq 3 (sl 4 (sl 5 (sl 6 sz))))))) (by kernel_rfl) ?_
  refine fld fl30_0 rfl rfl rfl ?_
  refine ldl Tryd.isAgg28 (cB 0 rfl rfl) trv rfl rfl rfl ?_
  refine mvI rfl rfl rfl ?_
  refine ixRl (zn := (u).toNat) (z.getD ((u).toNat) dN) el28 (Kn.drop (k := 1) kz) rfl rfl rfl rfl (by omega) (by omega) rfl (nth dN (by omega)) ?_
  intro be1 oe1 e1
  refine ldAl Tryd.isAgg78 Tryd.sizeOf78 (e1) trv rfl rfl rfl rfl ?_
  refine alc Tryd.zeroValue78 rfl trv1 rfl rfl (fun bka2 hbka2 => ?_)
  refine stAl (vs := [.int .i64 ((z.getD ((u).toNat) dN).pl), .int .i64 ((z.getD ((u).toNat) dN).p0), .int .i64 ((z.getD ((u).toNat) dN).p1), .int .i64 ((z.getD ((u).toNat) dN).fo), .slice ((Hz ((u).toNat)).1) (((z.getD ((u).toNat) dN).ch).length) ((Hz ((u).toNat)).2)]) 0 rfl Tryd.sizeOf78 trv rfl rfl rfl rfl rfl (by simp [Value.oneCell']) rfl ?_
  refine rNil ?_
  refine qSeq rfl ?_
  refine hSeq ?_
  refine hReg (sq 0 sz) (by kernel_rfl) ?_
  refine asn (v := sv [115]) rfl rfl rfl ?_
  refine rNil ?_
  refine qSeq rfl ?_
  refine hSeq ?_
  refine hBlk ?_
  refine hSeq ?_
  refine hReg (sq 0 (sl 1 (sq 2 (sq 3 sz)))) (by kernel_rfl) ?_
  refine fld fl78_0 rfl rfl rfl ?_
  refine ldl Tryd.isAgg2 (cB 0 rfl rfl) trv rfl rfl rfl ?_
  refine neq rfl rfl rfl rfl ?_
  refine asB rfl rfl rfl ?_
  refine rNil ?_
  refine qSeq rfl ?_
  refine hIfD rfl (fun c1 => ?_) (fun c1 => ?_)
  ·
   replace c1 : (z.getD ((u).toNat) dN).pl ≠ 2 := c1
   refine hReg (sq 0 (sl 1 (sl 2 (sq 3 (sq 4 sz))))) (by kernel_rfl) ?_
   refine fld fl78_0 rfl rfl rfl ?_
   refine ldl Tryd.isAgg2 (cB 0 rfl rfl) trv rfl rfl rfl ?_
   refine callP (v := sv ((Math.dec ((z.getD ((u).toNat) dN).pl)))) Tryd.call28 trv rfl rfl (fun w hs => spec_l01Dec_c _ w (by omega) (by omega)) ?_
   have hslq2 := show (Math.dec ((z.getD ((u).toNat) dN).pl)).length ≤ 3 from Math.dec_len3 (by omega)
   refine strAdd rfl rfl rfl rfl (by first | (simp only [List.length_append, List.length_cons, List.length_nil, List.length_map]; omega) | omega) ?_
   refine asn (v := sv (([112] ++ (Math.dec ((z.getD ((u).toNat) dN).pl))))) rfl rfl rfl ?_
   refine rNil ?_
   refine qSeq rfl ?_
   refine hSeq ?_
   refine hDraw (Ls := [blk bka2 78 [.int .i64 ((z.getD ((u).toNat) dN).pl), .int .i64 ((z.getD ((u).toNat) dN).p0), .int .i64 ((z.getD ((u).toNat) dN).p1), .int .i64 ((z.getD ((u).toNat) dN).fo), .slice ((Hz ((u).toNat)).1) (((z.getD ((u).toNat) dN).ch).length) ((Hz ((u).toNat)).2)]]) (by kernel_rfl) (sq 0 (sq 1 (sq 2 (sq 3 (sq 4 (sq 8 (sq 9 (sl 5 (sq 6 (sq 7 (sl 10 (sq 11 (sq 12 sz))))))))))))) (by kernel_rfl) (.cons_cons _ (.cons _ .slnil)) ?_
   refine mv (v := sv (([112] ++ (Math.dec ((z.getD ((u).toNat) dN).pl))))) rfl rfl rfl ?_
   refine strAdd rfl rfl rfl rfl (by first | (simp only [List.length_append, List.length_cons, List.length_nil, List.length_map]; omega) | omega) ?_
   refine strAdd rfl rfl rfl rfl (by first | (simp only [List.length_append, List.length_cons, List.length_nil, List.length_map]; omega) | omega) ?_
   refine fld fl78_1 rfl rfl rfl ?_
   refine ldq Tryd.isAgg2 (cB 0 rfl rfl) rfl rfl rfl ?_
   refine fld fl78_2 rfl rfl rfl ?_
   refine ldq Tryd.isAgg2 (cB 0 rfl rfl) rfl rfl rfl ?_
   refine callP (v := sv ((Math.dec ((z.getD ((u).toNat) dN).p0)))) Tryd.call28 (fun _ h => h.pick [0]) rfl rfl (fun w hs => spec_l01Dec_c _ w (by omega) (by omega)) ?_
   have hslq3 := show (Math.dec ((z.getD ((u).toNat) dN).p0)).length ≤ 3 from Math.dec_len3 (by omega)
   refine strAdd rfl rfl rfl rfl (by first | (simp only [List.length_append, List.length_cons, List.length_nil, List.length_map]; omega) | omega) ?_
   refine strAdd rfl rfl rfl rfl (by first | (simp only [List.length_append, List.length_cons, List.length_nil, List.length_map]; omega) | omega) ?_
   refine callP (v := sv ((Math.dec ((z.getD ((u).toNat) dN).p1)))) Tryd.call28 (fun _ h => h.pick [0]) rfl rfl (fun w hs => spec_l01Dec_c _ w (by omega) (by omega)) ?_
   have hslq4 := show (Math.dec ((z.getD ((u).toNat) dN).p1)).length ≤ 3 from Math.dec_len3 (by omega)
   refine strAdd rfl rfl rfl rfl (by first | (simp only [List.length_append, List.length_cons, List.length_nil, List.length_map]; omega) | omega) ?_
   refine asn (v := sv (((((([40] ++ ([112] ++ (Math.dec ((z.getD ((u).toNat) dN).pl)))) ++ [32]) ++ (Math.dec ((z.getD ((u).toNat) dN).p0))) ++ [47]) ++ (Math.dec ((z.getD ((u).toNat) dN).p1))))) rfl rfl rfl ?_
   refine rNil ?_
   refine qSeq rfl ?_
   refine hSeq ?_
   refine hSeq ?_
   refine hReg (sq 0 sz) (by kernel_rfl) ?_
   refine asI rfl rfl rfl ?_
   refine rNil ?_
   refine qSeq rfl ?_
   refine hBlk ?_
   rw [show ((((([40] ++ ([112] ++ (Math.dec ((z.getD ((u).toNat) dN).pl)))) ++ [32]) ++ (Math.dec ((z.getD ((u).toNat) dN).p0))) ++ [47]) ++ (Math.dec ((z.getD ((u).toNat) dN).p1))) = Math.textTo z u 0 from by rw [Math.textTo_0]; unfold Math.openT; rw [Math.head_p (x := (z.getD u.toNat dN)) (by omega)]; try simp only [List.cons_append, List.nil_append, List.append_assoc]]
   refine hLoop (α := Nat) (fun i => i ≤ (z.getD u.toNat dN).ch.length) (fun i => (z.getD u.toNat dN).ch.length - i) (fun i => [blk bka2 78 [.int .i64 ((z.getD ((u).toNat) dN).pl), .int .i64 ((z.getD ((u).toNat) dN).p0), .int .i64 ((z.getD ((u).toNat) dN).p1), .int .i64 ((z.getD ((u).toNat) dN).fo), .slice ((Hz ((u).toNat)).1) (((z.getD ((u).toNat) dN).ch).length) ((Hz ((u).toNat)).2)], blk bkb1 30 [.slice az nz cz]]) (fun i => [(2, .pointer (some ⟨bkb1, 0, none⟩)), (5, .pointer (some ⟨bka2, 0, none⟩)), (7, sv (Math.textTo z u i)), (8, .int .i64 (i : Int))]) 0 (Nat.zero_le _) (fun _ h => h.pick [0, 0]) ⟨rfl, rfl, rfl, rfl, trivial⟩ ?_
   rintro i τ1 hi
   have htl := Math.textTo_len ht (v := u) (by omega) hd i
   refine hSeq ?_
   refine hSeq ?_
   refine hReg (sq 0 (sq 1 (sl 2 (sq 3 (sq 4 sz))))) (by kernel_rfl) ?_
   refine mvI rfl rfl rfl ?_
   refine fld fl78_4 rfl rfl rfl ?_
   refine ldl Tryd.isAgg59 (cB 0 rfl rfl) trv rfl rfl rfl ?_
   refine lenS Tryd.runUnderlying59 rfl rfl rfl ?_
   refine lss rfl rfl rfl rfl ?_
   refine rNil ?_
   refine qSeq rfl ?_
   refine hIfD rfl (fun c2 => ?_) (fun c2 => ?_)
   ·
    replace c2 : (i : Int) < ((((z.getD ((u).toNat) dN).ch).length : Nat) : Int) := c2
    have hkd := Math.kid_ok ht (v := u) (by omega) hd (i := i) (by omega)
    refine hSkip ?_
    refine qSeq rfl ?_
    refine hSeq ?_
    refine hBlk ?_
    refine hDraw (Ls := [blk bka2 78 [.int .i64 ((z.getD ((u).toNat) dN).pl), .int .i64 ((z.getD ((u).toNat) dN).p0), .int .i64 ((z.getD ((u).toNat) dN).p1), .int .i64 ((z.getD ((u).toNat) dN).fo), .slice ((Hz ((u).toNat)).1) (((z.getD ((u).toNat) dN).ch).length) ((Hz ((u).toNat)).2)], blk bkb1 30 [.slice az nz cz]]) (by kernel_rfl) (sq 0 (sq 1 (sq 2 (sq 3 (sq 4 (sq 5 (sq 6 (sl 7 (sq 8 (sq 9 sz)))))))))) (by kernel_rfl) (.cons_cons _ (.cons_cons _ .slnil)) ?_
    refine mv (v := sv (Math.textTo z u i)) rfl rfl rfl ?_
    refine ldAq Tryd.isAgg30 Tryd.sizeOf30 (cBs 1 rfl) rfl rfl rfl rfl ?_
    refine fld fl78_4 rfl rfl rfl ?_
    refine ldq Tryd.isAgg59 (cB 0 rfl rfl) rfl rfl rfl ?_
    refine mvI rfl rfl rfl ?_
    refine ixIq (zn := i) el59 (Kn.drop (k := 2) ((Kn.imp kz fun _ h => h.kidN (nth dN (by omega))))) (fun _ h => h.pick [0, 0]) rfl rfl rfl rfl (by omega) (by omega) rfl ?_
    intro ae5 e5
    refine ldq Tryd.isAgg2 (e5) rfl rfl rfl ?_
    refine callP (v := sv ((Math.text z ((((z.getD ((u).toNat) dN).ch).getD i 0))))) Tryd.call20 (fun _ h => h.pick [0, 0]) rfl rfl (fun w hs => ih _ (by omega) _ nz cz _ _ _ w rfl (Kn.drop (k := 2) kz w hs) (by assumption) (by omega) (by omega)) ?_
    have hslq6 := show (Math.text z ((((z.getD ((u).toNat) dN).ch).getD i 0))).length ≤ 62500 from Math.text_len (by assumption) ⟨by omega, by omega⟩ (by omega)
    refine strAdd rfl rfl rfl rfl (by first | (simp only [List.length_append, List.length_cons, List.length_nil, List.length_map]; omega) | omega) ?_
    refine asn (v := sv (((Math.textTo z u i) ++ (Math.text z ((((z.getD ((u).toNat) dN).ch).getD i 0)))))) rfl rfl rfl ?_
    refine rNil ?_
    refine qSeq rfl ?_
    refine hReg (sq 0 (sq 1 (sq 2 sz))) (by kernel_rfl) ?_
    refine mvI rfl rfl rfl ?_
    refine add rfl rfl rfl rfl (by omega) ?_
    refine asI rfl rfl rfl ?_
    refine rNil ?_
    rw [← Math.textTo_s (by omega)]
    exact qNext rfl (i + 1) (by omega) (by omega) ⟨rfl, rfl, rfl, rfl, trivial⟩ (fun _ h => h.pick [0, 0])
   ·
    replace c2 : ¬ ((i : Int) < ((((z.getD ((u).toNat) dN).ch).length : Nat) : Int)) := c2
    refine hExit rfl ?_
    refine qSeq rfl ?_
    refine hSeq ?_
    refine hReg (sq 0 (sq 1 (sq 2 sz))) (by kernel_rfl) ?_
    refine mv (v := sv (Math.textTo z u i)) rfl rfl rfl ?_
    refine strAdd rfl rfl rfl rfl (by first | (simp only [List.length_append, List.length_cons, List.length_nil, List.length_map]; omega) | omega) ?_
    refine asn (v := sv (((Math.textTo z u i) ++ [41]))) rfl rfl rfl ?_
    refine rNil ?_
    refine qSeq rfl ?_
    refine hRet ?_
    exact fun w hs => ⟨[sv (((Math.textTo z u i) ++ [41]))], ⟨rfl, trivial⟩, ⟨by exact vS (Math.text_step hT.2.1 (by omega) (by omega)).symm, hs.upd⟩⟩
  ·
   replace c1 : ¬ ((z.getD ((u).toNat) dN).pl ≠ 2) := c1
   refine hSeq ?_
   refine hReg (sq 0 (sl 1 (sq 2 (sq 3 sz)))) (by kernel_rfl) ?_
   refine fld fl78_3 rfl rfl rfl ?_
   refine ldl Tryd.isAgg2 (cB 0 rfl rfl) trv rfl rfl rfl ?_
   refine geq rfl rfl rfl rfl ?_
   refine asB rfl rfl rfl ?_
   refine rNil ?_
   refine qSeq rfl ?_
   refine hIfD rfl (fun c3 => ?_) (fun c3 => ?_)
   ·
    replace c3 : 0 ≤ (z.getD ((u).toNat) dN).fo := c3
    refine hReg (sq 0 (sl 1 (sl 2 (sq 3 (sq 4 sz))))) (by kernel_rfl) ?_
    refine fld fl78_3 rfl rfl rfl ?_
    refine ldl Tryd.isAgg2 (cB 0 rfl rfl) trv rfl rfl rfl ?_
    refine callP (v := sv ((Math.dec ((z.getD ((u).toNat) dN).fo)))) Tryd.call28 trv rfl rfl (fun w hs => spec_l01Dec_c _ w (by omega) (by omega)) ?_
    have hslq7 := show (Math.dec ((z.getD ((u).toNat) dN).fo)).length ≤ 3 from Math.dec_len3 (by omega)
    refine strAdd rfl rfl rfl rfl (by first | (simp only [List.length_append, List.length_cons, List.length_nil, List.length_map]; omega) | omega) ?_
    refine asn (v := sv (([102] ++ (Math.dec ((z.getD ((u).toNat) dN).fo))))) rfl rfl rfl ?_
    refine rNil ?_
    refine qSeq rfl ?_
    refine hSeq ?_
    refine hDraw (Ls := [blk bka2 78 [.int .i64 ((z.getD ((u).toNat) dN).pl), .int .i64 ((z.getD ((u).toNat) dN).p0), .int .i64 ((z.getD ((u).toNat) dN).p1), .int .i64 ((z.getD ((u).toNat) dN).fo), .slice ((Hz ((u).toNat)).1) (((z.getD ((u).toNat) dN).ch).length) ((Hz ((u).toNat)).2)]]) (by kernel_rfl) (sq 0 (sq 1 (sq 2 (sq 3 (sq 4 (sq 8 (sq 9 (sl 5 (sq 6 (sq 7 (sl 10 (sq 11 (sq 12 sz))))))))))))) (by kernel_rfl) (.cons_cons _ (.cons _ .slnil)) ?_
    refine mv (v := sv (([102] ++ (Math.dec ((z.getD ((u).toNat) dN).fo))))) rfl rfl rfl ?_
    refine strAdd rfl rfl rfl rfl (by first | (simp only [List.length_append, List.length_cons, List.length_nil, List.length_map]; omega) | omega) ?_
    refine strAdd rfl rfl rfl rfl (by first | (simp only [List.length_append, List.length_cons, List.length_nil, List.length_map]; omega) | omega) ?_
    refine fld fl78_1 rfl rfl rfl ?_
    refine ldq Tryd.isAgg2 (cB 0 rfl rfl) rfl rfl rfl ?_
    refine fld fl78_2 rfl rfl rfl ?_
    refine ldq Tryd.isAgg2 (cB 0 rfl rfl) rfl rfl rfl ?_
    refine callP (v := sv ((Math.dec ((z.getD ((u).toNat) dN).p0)))) Tryd.call28 (fun _ h => h.pick [0]) rfl rfl (fun w hs => spec_l01Dec_c _ w (by omega) (by omega)) ?_
    have hslq8 := show (Math.dec ((z.getD ((u).toNat) dN).p0)).length ≤ 3 from Math.dec_len3 (by omega)
    refine strAdd rfl rfl rfl rfl (by first | (simp only [List.length_append, List.length_cons, List.length_nil, List.length_map]; omega) | omega) ?_
    refine strAdd rfl rfl rfl rfl (by first | (simp only [List.length_append, List.length_cons, List.length_nil, List.length_map]; omega) | omega) ?_
    refine callP (v := sv ((Math.dec ((z.getD ((u).toNat) dN).p1)))) Tryd.call28 (fun _ h => h.pick [0]) rfl rfl (fun w hs => spec_l01Dec_c _ w (by omega) (by omega)) ?_
    have hslq9 := show (Math.dec ((z.getD ((u).toNat) dN).p1)).length ≤ 3 from Math.dec_len3 (by omega)
    refine strAdd rfl rfl rfl rfl (by first | (simp only [List.length_append, List.length_cons, List.length_nil, List.length_map]; omega) | omega) ?_
    refine asn (v := sv (((((([40] ++ ([102] ++ (Math.dec ((z.getD ((u).toNat) dN).fo)))) ++ [32]) ++ (Math.dec ((z.getD ((u).toNat) dN).p0))) ++ [47]) ++ (Math.dec ((z.getD ((u).toNat) dN).p1))))) rfl rfl rfl ?_
    refine rNil ?_
    refine qSeq rfl ?_
    refine hSeq ?_
    refine hSeq ?_
    refine hReg (sq 0 sz) (by kernel_rfl) ?_
    refine asI rfl rfl rfl ?_
    refine rNil ?_
    refine qSeq rfl ?_
    refine hBlk ?_
    rw [show ((((([40] ++ ([102] ++ (Math.dec ((z.getD ((u).toNat) dN).fo)))) ++ [32]) ++ (Math.dec ((z.getD ((u).toNat) dN).p0))) ++ [47]) ++ (Math.dec ((z.getD ((u).toNat) dN).p1))) = Math.textTo z u 0 from by rw [Math.textTo_0]; unfold Math.openT; rw [Math.head_f (x := (z.getD u.toNat dN)) (by omega) (by omega)]; try simp only [List.cons_append, List.nil_append, List.append_assoc]]
    refine hLoop (α := Nat) (fun i => i ≤ (z.getD u.toNat dN).ch.length) (fun i => (z.getD u.toNat dN).ch.length - i) (fun i => [blk bka2 78 [.int .i64 ((z.getD ((u).toNat) dN).pl), .int .i64 ((z.getD ((u).toNat) dN).p0), .int .i64 ((z.getD ((u).toNat) dN).p1), .int .i64 ((z.getD ((u).toNat) dN).fo), .slice ((Hz ((u).toNat)).1) (((z.getD ((u).toNat) dN).ch).length) ((Hz ((u).toNat)).2)], blk bkb1 30 [.slice az nz cz]]) (fun i => [(2, .pointer (some ⟨bkb1, 0, none⟩)), (5, .pointer (some ⟨bka2, 0, none⟩)), (7, sv (Math.textTo z u i)), (8, .int .i64 (i : Int))]) 0 (Nat.zero_le _) (fun _ h => h.pick [0, 0]) ⟨rfl, rfl, rfl, rfl, trivial⟩ ?_
    rintro i τ2 hi
    have htl := Math.textTo_len ht (v := u) (by omega) hd i
    refine hSeq ?_
    refine hSeq ?_
    refine hReg (sq 0 (sq 1 (sl 2 (sq 3 (sq 4 sz))))) (by kernel_rfl) ?_
    refine mvI rfl rfl rfl ?_
    refine fld fl78_4 rfl rfl rfl ?_
    refine ldl Tryd.isAgg59 (cB 0 rfl rfl) trv rfl rfl rfl ?_
    refine lenS Tryd.runUnderlying59 rfl rfl rfl ?_
    refine lss rfl rfl rfl rfl ?_
    refine rNil ?_
    refine qSeq rfl ?_
    refine hIfD rfl (fun c4 => ?_) (fun c4 => ?_)
    ·
     replace c4 : (i : Int) < ((((z.getD ((u).toNat) dN).ch).length : Nat) : Int) := c4
     have hkd := Math.kid_ok ht (v := u) (by omega) hd (i := i) (by omega)
     refine hSkip ?_
     refine qSeq rfl ?_
     refine hSeq ?_
     refine hBlk ?_
     refine hDraw (Ls := [blk bka2 78 [.int .i64 ((z.getD ((u).toNat) dN).pl), .int .i64 ((z.getD ((u).toNat) dN).p0), .int .i64 ((z.getD ((u).toNat) dN).p1), .int .i64 ((z.getD ((u).toNat) dN).fo), .slice ((Hz ((u).toNat)).1) (((z.getD ((u).toNat) dN).ch).length) ((Hz ((u).toNat)).2)], blk bkb1 30 [.slice az nz cz]]) (by kernel_rfl) (sq 0 (sq 1 (sq 2 (sq 3 (sq 4 (sq 5 (sq 6 (sl 7 (sq 8 (sq 9 sz)))))))))) (by kernel_rfl) (.cons_cons _ (.cons_cons _ .slnil)) ?_
     refine mv (v := sv (Math.textTo z u i)) rfl rfl rfl ?_
     refine ldAq Tryd.isAgg30 Tryd.sizeOf30 (cBs 1 rfl) rfl rfl rfl rfl ?_
     refine fld fl78_4 rfl rfl rfl ?_
     refine ldq Tryd.isAgg59 (cB 0 rfl rfl) rfl rfl rfl ?_
     refine mvI rfl rfl rfl ?_
     refine ixIq (zn := i) el59 (Kn.drop (k := 2) ((Kn.imp kz fun _ h => h.kidN (nth dN (by omega))))) (fun _ h => h.pick [0, 0]) rfl rfl rfl rfl (by omega) (by omega) rfl ?_
     intro ae10 e10
     refine ldq Tryd.isAgg2 (e10) rfl rfl rfl ?_
     refine callP (v := sv ((Math.text z ((((z.getD ((u).toNat) dN).ch).getD i 0))))) Tryd.call20 (fun _ h => h.pick [0, 0]) rfl rfl (fun w hs => ih _ (by omega) _ nz cz _ _ _ w rfl (Kn.drop (k := 2) kz w hs) (by assumption) (by omega) (by omega)) ?_
     have hslq11 := show (Math.text z ((((z.getD ((u).toNat) dN).ch).getD i 0))).length ≤ 62500 from Math.text_len (by assumption) ⟨by omega, by omega⟩ (by omega)
     refine strAdd rfl rfl rfl rfl (by first | (simp only [List.length_append, List.length_cons, List.length_nil, List.length_map]; omega) | omega) ?_
     refine asn (v := sv (((Math.textTo z u i) ++ (Math.text z ((((z.getD ((u).toNat) dN).ch).getD i 0)))))) rfl rfl rfl ?_
     refine rNil ?_
     refine qSeq rfl ?_
     refine hReg (sq 0 (sq 1 (sq 2 sz))) (by kernel_rfl) ?_
     refine mvI rfl rfl rfl ?_
     refine add rfl rfl rfl rfl (by omega) ?_
     refine asI rfl rfl rfl ?_
     refine rNil ?_
     rw [← Math.textTo_s (by omega)]
     exact qNext rfl (i + 1) (by omega) (by omega) ⟨rfl, rfl, rfl, rfl, trivial⟩ (fun _ h => h.pick [0, 0])
    ·
     replace c4 : ¬ ((i : Int) < ((((z.getD ((u).toNat) dN).ch).length : Nat) : Int)) := c4
     refine hExit rfl ?_
     refine qSeq rfl ?_
     refine hSeq ?_
     refine hReg (sq 0 (sq 1 (sq 2 sz))) (by kernel_rfl) ?_
     refine mv (v := sv (Math.textTo z u i)) rfl rfl rfl ?_
     refine strAdd rfl rfl rfl rfl (by first | (simp only [List.length_append, List.length_cons, List.length_nil, List.length_map]; omega) | omega) ?_
     refine asn (v := sv (((Math.textTo z u i) ++ [41]))) rfl rfl rfl ?_
     refine rNil ?_
     refine qSeq rfl ?_
     refine hRet ?_
     exact fun w hs => ⟨[sv (((Math.textTo z u i) ++ [41]))], ⟨rfl, trivial⟩, ⟨by exact vS (Math.text_step hT.2.1 (by omega) (by omega)).symm, hs.upd⟩⟩
   ·
    replace c3 : ¬ (0 ≤ (z.getD ((u).toNat) dN).fo) := c3
    refine hSkip ?_
    refine qSeq rfl ?_
    refine hSeq ?_
    refine hDraw (Ls := [blk bka2 78 [.int .i64 ((z.getD ((u).toNat) dN).pl), .int .i64 ((z.getD ((u).toNat) dN).p0), .int .i64 ((z.getD ((u).toNat) dN).p1), .int .i64 ((z.getD ((u).toNat) dN).fo), .slice ((Hz ((u).toNat)).1) (((z.getD ((u).toNat) dN).ch).length) ((Hz ((u).toNat)).2)]]) (by kernel_rfl) (sq 0 (sq 1 (sq 2 (sq 3 (sq 4 (sq 8 (sq 9 (sl 5 (sq 6 (sq 7 (sl 10 (sq 11 (sq 12 sz))))))))))))) (by kernel_rfl) (.cons_cons _ (.cons _ .slnil)) ?_
    refine mv (v := sv [115]) rfl rfl rfl ?_
    refine strAdd rfl rfl rfl rfl (by first | (simp only [List.length_append, List.length_cons, List.length_nil, List.length_map]; omega) | omega) ?_
    refine strAdd rfl rfl rfl rfl (by first | (simp only [List.length_append, List.length_cons, List.length_nil, List.length_map]; omega) | omega) ?_
    refine fld fl78_1 rfl rfl rfl ?_
    refine ldq Tryd.isAgg2 (cB 0 rfl rfl) rfl rfl rfl ?_
    refine fld fl78_2 rfl rfl rfl ?_
    refine ldq Tryd.isAgg2 (cB 0 rfl rfl) rfl rfl rfl ?_
    refine callP (v := sv ((Math.dec ((z.getD ((u).toNat) dN).p0)))) Tryd.call28 (fun _ h => h.pick [0]) rfl rfl (fun w hs => spec_l01Dec_c _ w (by omega) (by omega)) ?_
    have hslq12 := show (Math.dec ((z.getD ((u).toNat) dN).p0)).length ≤ 3 from Math.dec_len3 (by omega)
    refine strAdd rfl rfl rfl rfl (by first | (simp only [List.length_append, List.length_cons, List.length_nil, List.length_map]; omega) | omega) ?_
    refine strAdd rfl rfl rfl rfl (by first | (simp only [List.length_append, List.length_cons, List.length_nil, List.length_map]; omega) | omega) ?_
    refine callP (v := sv ((Math.dec ((z.getD ((u).toNat) dN).p1)))) Tryd.call28 (fun _ h => h.pick [0]) rfl rfl (fun w hs => spec_l01Dec_c _ w (by omega) (by omega)) ?_
    have hslq13 := show (Math.dec ((z.getD ((u).toNat) dN).p1)).length ≤ 3 from Math.dec_len3 (by omega)
    refine strAdd rfl rfl rfl rfl (by first | (simp only [List.length_append, List.length_cons, List.length_nil, List.length_map]; omega) | omega) ?_
    refine asn (v := sv (((((([40] ++ [115]) ++ [32]) ++ (Math.dec ((z.getD ((u).toNat) dN).p0))) ++ [47]) ++ (Math.dec ((z.getD ((u).toNat) dN).p1))))) rfl rfl rfl ?_
    refine rNil ?_
    refine qSeq rfl ?_
    refine hSeq ?_
    refine hSeq ?_
    refine hReg (sq 0 sz) (by kernel_rfl) ?_
    refine asI rfl rfl rfl ?_
    refine rNil ?_
    refine qSeq rfl ?_
    refine hBlk ?_
    rw [show ((((([40] ++ [115]) ++ [32]) ++ (Math.dec ((z.getD ((u).toNat) dN).p0))) ++ [47]) ++ (Math.dec ((z.getD ((u).toNat) dN).p1))) = Math.textTo z u 0 from by rw [Math.textTo_0]; unfold Math.openT; rw [Math.head_s (x := (z.getD u.toNat dN)) (by omega) (by omega)]; try simp only [List.cons_append, List.nil_append, List.append_assoc]]
    refine hLoop (α := Nat) (fun i => i ≤ (z.getD u.toNat dN).ch.length) (fun i => (z.getD u.toNat dN).ch.length - i) (fun i => [blk bka2 78 [.int .i64 ((z.getD ((u).toNat) dN).pl), .int .i64 ((z.getD ((u).toNat) dN).p0), .int .i64 ((z.getD ((u).toNat) dN).p1), .int .i64 ((z.getD ((u).toNat) dN).fo), .slice ((Hz ((u).toNat)).1) (((z.getD ((u).toNat) dN).ch).length) ((Hz ((u).toNat)).2)], blk bkb1 30 [.slice az nz cz]]) (fun i => [(2, .pointer (some ⟨bkb1, 0, none⟩)), (5, .pointer (some ⟨bka2, 0, none⟩)), (7, sv (Math.textTo z u i)), (8, .int .i64 (i : Int))]) 0 (Nat.zero_le _) (fun _ h => h.pick [0, 0]) ⟨rfl, rfl, rfl, rfl, trivial⟩ ?_
    rintro i τ3 hi
    have htl := Math.textTo_len ht (v := u) (by omega) hd i
    refine hSeq ?_
    refine hSeq ?_
    refine hReg (sq 0 (sq 1 (sl 2 (sq 3 (sq 4 sz))))) (by kernel_rfl) ?_
    refine mvI rfl rfl rfl ?_
    refine fld fl78_4 rfl rfl rfl ?_
    refine ldl Tryd.isAgg59 (cB 0 rfl rfl) trv rfl rfl rfl ?_
    refine lenS Tryd.runUnderlying59 rfl rfl rfl ?_
    refine lss rfl rfl rfl rfl ?_
    refine rNil ?_
    refine qSeq rfl ?_
    refine hIfD rfl (fun c5 => ?_) (fun c5 => ?_)
    ·
     replace c5 : (i : Int) < ((((z.getD ((u).toNat) dN).ch).length : Nat) : Int) := c5
     have hkd := Math.kid_ok ht (v := u) (by omega) hd (i := i) (by omega)
     refine hSkip ?_
     refine qSeq rfl ?_
     refine hSeq ?_
     refine hBlk ?_
     refine hDraw (Ls := [blk bka2 78 [.int .i64 ((z.getD ((u).toNat) dN).pl), .int .i64 ((z.getD ((u).toNat) dN).p0), .int .i64 ((z.getD ((u).toNat) dN).p1), .int .i64 ((z.getD ((u).toNat) dN).fo), .slice ((Hz ((u).toNat)).1) (((z.getD ((u).toNat) dN).ch).length) ((Hz ((u).toNat)).2)], blk bkb1 30 [.slice az nz cz]]) (by kernel_rfl) (sq 0 (sq 1 (sq 2 (sq 3 (sq 4 (sq 5 (sq 6 (sl 7 (sq 8 (sq 9 sz)))))))))) (by kernel_rfl) (.cons_cons _ (.cons_cons _ .slnil)) ?_
     refine mv (v := sv (Math.textTo z u i)) rfl rfl rfl ?_
     refine ldAq Tryd.isAgg30 Tryd.sizeOf30 (cBs 1 rfl) rfl rfl rfl rfl ?_
     refine fld fl78_4 rfl rfl rfl ?_
     refine ldq Tryd.isAgg59 (cB 0 rfl rfl) rfl rfl rfl ?_
     refine mvI rfl rfl rfl ?_
     refine ixIq (zn := i) el59 (Kn.drop (k := 2) ((Kn.imp kz fun _ h => h.kidN (nth dN (by omega))))) (fun _ h => h.pick [0, 0]) rfl rfl rfl rfl (by omega) (by omega) rfl ?_
     intro ae14 e14
     refine ldq Tryd.isAgg2 (e14) rfl rfl rfl ?_
     refine callP (v := sv ((Math.text z ((((z.getD ((u).toNat) dN).ch).getD i 0))))) Tryd.call20 (fun _ h => h.pick [0, 0]) rfl rfl (fun w hs => ih _ (by omega) _ nz cz _ _ _ w rfl (Kn.drop (k := 2) kz w hs) (by assumption) (by omega) (by omega)) ?_
     have hslq15 := show (Math.text z ((((z.getD ((u).toNat) dN).ch).getD i 0))).length ≤ 62500 from Math.text_len (by assumption) ⟨by omega, by omega⟩ (by omega)
     refine strAdd rfl rfl rfl rfl (by first | (simp only [List.length_append, List.length_cons, List.length_nil, List.length_map]; omega) | omega) ?_
     refine asn (v := sv (((Math.textTo z u i) ++ (Math.text z ((((z.getD ((u).toNat) dN).ch).getD i 0)))))) rfl rfl rfl ?_
     refine rNil ?_
     refine qSeq rfl ?_
     refine hReg (sq 0 (sq 1 (sq 2 sz))) (by kernel_rfl) ?_
     refine mvI rfl rfl rfl ?_
     refine add rfl rfl rfl rfl (by omega) ?_
     refine asI rfl rfl rfl ?_
     refine rNil ?_
     rw [← Math.textTo_s (by omega)]
     exact qNext rfl (i + 1) (by omega) (by omega) ⟨rfl, rfl, rfl, rfl, trivial⟩ (fun _ h => h.pick [0, 0])
    ·
     replace c5 : ¬ ((i : Int) < ((((z.getD ((u).toNat) dN).ch).length : Nat) : Int)) := c5
     refine hExit rfl ?_
     refine qSeq rfl ?_
     refine hSeq ?_
     refine hReg (sq 0 (sq 1 (sq 2 sz))) (by kernel_rfl) ?_
     refine mv (v := sv (Math.textTo z u i)) rfl rfl rfl ?_
     refine strAdd rfl rfl rfl rfl (by first | (simp only [List.length_append, List.length_cons, List.length_nil, List.length_map]; omega) | omega) ?_
     refine asn (v := sv (((Math.textTo z u i) ++ [41]))) rfl rfl rfl ?_
     refine rNil ?_
     refine qSeq rfl ?_
     refine hRet ?_
     exact fun w hs => ⟨[sv (((Math.textTo z u i) ++ [41]))], ⟨rfl, trivial⟩, ⟨by exact vS (Math.text_step hT.2.1 (by omega) (by omega)).symm, hs.upd⟩⟩
theorem spec_l20Text_c (az : Option Addr) (nz : Nat) (cz : Nat) (Hz : Nat → Hd) (z : List Nd) (u : Int) (w : World) (rz : RdR ndK az nz Hz z w) (ht : Math.isTree z = true) (hu : 0 ≤ u ∧ u < nz) (hd : Math.depth z u.toNat ≤ 5) :
  Calls Tryd.prog 20 #[.agg #[.slice az nz cz], .int .i64 u] w (Ret fun v w' => v = sv (Math.text z u) ∧ Ext w w') := spec_l20Text_c_r _ az nz cz Hz z u w rfl rz ht hu hd
set_option maxHeartbeats 1000000 in
theorem impl_treeText_c_r (kk_ : Nat) : ∀ (az : Option Addr) (nz : Nat) (cz : Nat) (Hz : Nat → Hd) (z : List Nd) (u : Int) (w : World), nz - u.toNat = kk_ → RdR ndK az nz Hz z w → TabP w → (Math.isTree z = true) → (0 ≤ u ∧ u < nz) → (Math.depth z u.toNat ≤ 5) → Calls Tryd.prog 23 #[.agg #[.slice az nz cz], .int .i64 u] w (Ret fun v w' => v = sv (Math.text z u) ∧ Ext w w') := by
 induction kk_ using Nat.strongRecOn with
 | _ kk_ ih =>
  intro az nz cz Hz z u w hK rz rtab ht hu hd
  have kz : Kn w none_ [] (RdR ndK az nz Hz z) := fun w' hs => rz.ext hs.upd
  have lz : z.length = nz := rz.1
  have mz : nz ≤ 9223372036854775807 := rz.2.1
  have ktab : Kn w none_ [] (TabP) := fun w' hs => rtab.ext hs.upd
  have hT := Math.isTree_ok ht
  have ho := Math.ok_pl ((Math.allOk_iff' lz).1 hT.2.1 u.toNat (by omega))
  have hop := Math.openT_len ho.1 ho.2.1 ho.2.2.1 ho.2.2.2.1
  refine fn (M := none_) (rs := [.tmp 4]) Tryd.func23 rfl Tryd.ntmps23 rfl rfl (Sep.start _ _) ?_
  refine hSeq ?_
  refine hReg (sl 0 (sq 1 sz)) (by kernel_rfl) ?_
  refine box trv1 rfl rfl rfl rfl (fun bkb1 hbkb1 => ?_)
  refine asn (v := sv []) rfl rfl rfl ?_
  refine rNil ?_
  refine qSeq rfl ?_
  refine hSeq ?_
  refine hReg (sq 0 (sl 1 (sq 2 (sq 3 (sl 4 (sl 5 (sl 6 sz))))))) (by kernel_rfl) ?_
  refine fld fl30_0 rfl rfl rfl ?_
  refine ldl Tryd.isAgg28 (cB 0 rfl rfl) trv rfl rfl rfl ?_
  refine mvI rfl rfl rfl ?_
  refine ixRl (zn := (u).toNat) (z.getD ((u).toNat) dN) el28 (Kn.drop (k := 1) kz) rfl rfl rfl rfl (by omega) (by omega) rfl (nth dN (by omega)) ?_
  intro be1 oe1 e1
  refine ldAl Tryd.isAgg78 Tryd.sizeOf78 (e1) trv rfl rfl rfl rfl ?_
  refine alc Tryd.zeroValue78 rfl trv1 rfl rfl (fun bka2 hbka2 => ?_)
  refine stAl (vs := [.int .i64 ((z.getD ((u).toNat) dN).pl), .int .i64 ((z.getD ((u).toNat) dN).p0), .int .i64 ((z.getD ((u).toNat) dN).p1), .int .i64 ((z.getD ((u).toNat) dN).fo), .slice ((Hz ((u).toNat)).1) (((z.getD ((u).toNat) dN).ch).length) ((Hz ((u).toNat)).2)]) 0 rfl Tryd.sizeOf78 trv rfl rfl rfl rfl rfl (by simp [Value.oneCell']) rfl ?_
  refine rNil ?_
  refine qSeq rfl ?_
  refine hSeq ?_
  refine hReg (sq 0 (sl 1 (sl 2 (sq 3 (sq 4 sz))))) (by kernel_rfl) ?_
  refine fld fl78_0 rfl rfl rfl ?_
  refine ldl Tryd.isAgg2 (cB 0 rfl rfl) trv rfl rfl rfl ?_
  refine callP (v := sv ((Math.dec ((z.getD ((u).toNat) dN).pl)))) Tryd.call46 trv rfl rfl (fun w hs => impl_decimal_c _ w (Kn.drop (k := 2) ktab w hs) (by omega) (by omega)) ?_
  have hslq2 := show (Math.dec ((z.getD ((u).toNat) dN).pl)).length ≤ 3 from Math.dec_len3 (by omega)
  refine strAdd rfl rfl rfl rfl (by first | (simp only [List.length_append, List.length_cons, List.length_nil, List.length_map]; omega) | omega) ?_
  refine asn (v := sv (([40, 112] ++ (Math.dec ((z.getD ((u).toNat) dN).pl))))) rfl rfl rfl ?_
  refine rNil ?_
  refine qSeq rfl ?_
  refine hSeq ?_
  refine hBlk ?_
  refine hSeq ?_
  refine hReg (sq 0 (sl 1 (sq 2 (sq 3 (sq 4 (sl 5 (sq 6 (sq 7 (sq 8 sz))))))))) (by kernel_rfl) ?_
  refine fld fl78_0 rfl rfl rfl ?_
  refine ldl Tryd.isAgg2 (cB 0 rfl rfl) trv rfl rfl rfl ?_
  refine eql rfl rfl rfl rfl ?_
  refine mvB rfl rfl rfl ?_
  refine rBoolD (d := 22) rfl (fun g1 => ?_) (fun g1 => ?_)
  ·
   replace g1 : (z.getD ((u).toNat) dN).pl = 2 := g1
   refine fld fl78_3 rfl rfl rfl ?_
   refine ldl Tryd.isAgg2 (cB 0 rfl rfl) trv rfl rfl rfl ?_
   refine lss rfl rfl rfl rfl ?_
   refine pickB rfl rfl rfl rfl ?_
   refine asB rfl rfl rfl ?_
   refine rNil ?_
   refine qSeq rfl ?_
   refine hIfD rfl (fun c2 => ?_) (fun c2 => ?_)
   ·
    replace c2 : (z.getD ((u).toNat) dN).fo < 0 := c2
    refine hReg (sq 0 sz) (by kernel_rfl) ?_
    refine asn (v := sv [40, 115]) rfl rfl rfl ?_
    refine rNil ?_
    refine qSeq rfl ?_
    refine hSeq ?_
    refine hDraw (Ls := [blk bka2 78 [.int .i64 ((z.getD ((u).toNat) dN).pl), .int .i64 ((z.getD ((u).toNat) dN).p0), .int .i64 ((z.getD ((u).toNat) dN).p1), .int .i64 ((z.getD ((u).toNat) dN).fo), .slice ((Hz ((u).toNat)).1) (((z.getD ((u).toNat) dN).ch).length) ((Hz ((u).toNat)).2)]]) (by kernel_rfl) (sq 0 (sq 1 (sq 2 (sq 6 (sq 7 (sl 3 (sq 4 (sq 5 (sl 8 (sq 9 (sq 10 (sq 11 sz)))))))))))) (by kernel_rfl) (.cons_cons _ (.cons _ .slnil)) ?_
    refine mv (v := sv [40, 115]) rfl rfl rfl ?_
    refine fld fl78_1 rfl rfl rfl ?_
    refine ldq Tryd.isAgg2 (cB 0 rfl rfl) rfl rfl rfl ?_
    refine fld fl78_2 rfl rfl rfl ?_
    refine ldq Tryd.isAgg2 (cB 0 rfl rfl) rfl rfl rfl ?_
    refine callP (v := sv ((Math.dec ((z.getD ((u).toNat) dN).p0)))) Tryd.call46 (fun _ h => h.pick [0]) rfl rfl (fun w hs => impl_decimal_c _ w (Kn.drop (k := 2) ktab w hs) (by omega) (by omega)) ?_
    have hslq3 := show (Math.dec ((z.getD ((u).toNat) dN).p0)).length ≤ 3 from Math.dec_len3 (by omega)
    refine strAdd rfl rfl rfl rfl (by first | (simp only [List.length_append, List.length_cons, List.length_nil, List.length_map]; omega) | omega) ?_
    refine strAdd rfl rfl rfl rfl (by first | (simp only [List.length_append, List.length_cons, List.length_nil, List.length_map]; omega) | omega) ?_
    refine callP (v := sv ((Math.dec ((z.getD ((u).toNat) dN).p1)))) Tryd.call46 (fun _ h => h.pick [0]) rfl rfl (fun w hs => impl_decimal_c _ w (Kn.drop (k := 2) ktab w hs) (by omega) (by omega)) ?_
    have hslq4 := show (Math.dec ((z.getD ((u).toNat) dN).p1)).length ≤ 3 from Math.dec_len3 (by omega)
    refine strAdd rfl rfl rfl rfl (by first | (simp only [List.length_append, List.length_cons, List.length_nil, List.length_map]; omega) | omega) ?_
    refine strAdd rfl rfl rfl rfl (by first | (simp only [List.length_append, List.length_cons, List.length_nil, List.length_map]; omega) | omega) ?_
    refine asn (v := sv (([40, 115] ++ ((([32] ++ (Math.dec ((z.getD ((u).toNat) dN).p0))) ++ [47]) ++ (Math.dec ((z.getD ((u).toNat) dN).p1)))))) rfl rfl rfl ?_
    refine rNil ?_
    refine qSeq rfl ?_
    refine hSeq ?_
    refine hSeq ?_
    refine hReg (sq 0 (sl 1 (sq 2 (sq 3 sz)))) (by kernel_rfl) ?_
    refine fld fl78_4 rfl rfl rfl ?_
    refine ldl Tryd.isAgg59 (cB 0 rfl rfl) trv rfl rfl rfl ?_
    refine lenS Tryd.runUnderlying59 rfl rfl rfl ?_
    refine mvI rfl rfl rfl ?_
    refine rNil ?_
    refine qSeq rfl ?_
    refine hBlk ?_
    rw [show ([40, 115] ++ ((([32] ++ (Math.dec ((z.getD ((u).toNat) dN).p0))) ++ [47]) ++ (Math.dec ((z.getD ((u).toNat) dN).p1)))) = Math.textTo z u 0 from by rw [Math.textTo_0]; unfold Math.openT; rw [Math.head_s (x := (z.getD u.toNat dN)) (by omega) (by omega)]; try simp only [List.cons_append, List.nil_append, List.append_assoc]]
    refine hLoop (α := Nat) (fun i => i ≤ (z.getD u.toNat dN).ch.length) (fun i => (z.getD u.toNat dN).ch.length - i) (fun i => [blk bka2 78 [.int .i64 ((z.getD ((u).toNat) dN).pl), .int .i64 ((z.getD ((u).toNat) dN).p0), .int .i64 ((z.getD ((u).toNat) dN).p1), .int .i64 ((z.getD ((u).toNat) dN).fo), .slice ((Hz ((u).toNat)).1) (((z.getD ((u).toNat) dN).ch).length) ((Hz ((u).toNat)).2)], blk bkb1 30 [.slice az nz cz]]) (fun i => [(2, .pointer (some ⟨bkb1, 0, none⟩)), (6, sv (Math.textTo z u i)), (47, .slice ((Hz ((u).toNat)).1) (((z.getD ((u).toNat) dN).ch).length) ((Hz ((u).toNat)).2)), (48, .int .i64 (((((z.getD ((u).toNat) dN).ch).length : Nat) : Int))), (49, .int .i64 (i : Int))]) 0 (Nat.zero_le _) (fun _ h => h.pick [0, 0]) ⟨rfl, rfl, rfl, rfl, rfl, trivial⟩ ?_
    rintro i τ1 hi
    have htl := Math.textTo_len ht (v := u) (by omega) hd i
    refine hSeq ?_
    refine hReg (sq 0 sz) (by kernel_rfl) ?_
    refine lss rfl rfl rfl rfl ?_
    refine rNil ?_
    refine qSeq rfl ?_
    refine hSeq ?_
    refine hIfD rfl (fun c3 => ?_) (fun c3 => ?_)
    ·
     replace c3 : (i : Int) < ((((z.getD ((u).toNat) dN).ch).length : Nat) : Int) := c3
     have hkd := Math.kid_ok ht (v := u) (by omega) hd (i := i) (by omega)
     refine hSkip ?_
     refine qSeq rfl ?_
     refine hSeq ?_
     refine hBlk ?_
     refine hSeq ?_
     refine hReg (sq 0 (sl 1 (sq 2 sz))) (by kernel_rfl) ?_
     refine ixIl (zn := i) el59 (Kn.drop (k := 2) ((Kn.imp kz fun _ h => h.kidN (nth dN (by omega))))) rfl rfl rfl rfl (by omega) (by omega) rfl ?_
     intro ae5 e5
     refine ldl Tryd.isAgg2 (e5) trv rfl rfl rfl ?_
     refine asI rfl rfl rfl ?_
     refine rNil ?_
     refine qSeq rfl ?_
     refine hReg (sq 0 (sl 1 (sq 2 (sl 3 (sq 4 (sq 5 sz)))))) (by kernel_rfl) ?_
     refine mv (v := sv (Math.textTo z u i)) rfl rfl rfl ?_
     refine ldAl Tryd.isAgg30 Tryd.sizeOf30 (cBs 1 rfl) trv rfl rfl rfl rfl ?_
     refine mvI rfl rfl rfl ?_
     refine callP (v := sv ((Math.text z ((((z.getD ((u).toNat) dN).ch).getD i 0))))) Tryd.call23 trv rfl rfl (fun w hs => ih _ (by omega) _ nz cz _ _ _ w rfl (Kn.drop (k := 2) kz w hs) (Kn.drop (k := 2) ktab w hs) (by assumption) (by omega) (by omega)) ?_
     have hslq6 := show (Math.text z ((((z.getD ((u).toNat) dN).ch).getD i 0))).length ≤ 62500 from Math.text_len (by assumption) ⟨by omega, by omega⟩ (by omega)
     refine strAdd rfl rfl rfl rfl (by first | (simp only [List.length_append, List.length_cons, List.length_nil, List.length_map]; omega) | omega) ?_
     refine asn (v := sv (((Math.textTo z u i) ++ (Math.text z ((((z.getD ((u).toNat) dN).ch).getD i 0)))))) rfl rfl rfl ?_
     refine rNil ?_
     refine qSeq rfl ?_
     refine hReg (sq 0 (sq 1 sz)) (by kernel_rfl) ?_
     refine add rfl rfl rfl rfl (by omega) ?_
     refine mvI rfl rfl rfl ?_
     refine rNil ?_
     rw [← Math.textTo_s (by omega)]
     exact qNext rfl (i + 1) (by omega) (by omega) ⟨rfl, rfl, rfl, rfl, rfl, trivial⟩ (fun _ h => h.pick [0, 0])
    ·
     replace c3 : ¬ ((i : Int) < ((((z.getD ((u).toNat) dN).ch).length : Nat) : Int)) := c3
     refine hExit rfl ?_
     refine qSeq rfl ?_
     refine hSeq ?_
     refine hReg (sq 0 (sq 1 (sq 2 sz))) (by kernel_rfl) ?_
     refine mv (v := sv (Math.textTo z u i)) rfl rfl rfl ?_
     refine strAdd rfl rfl rfl rfl (by first | (simp only [List.length_append, List.length_cons, List.length_nil, List.length_map]; omega) | omega) ?_
     refine asn (v := sv (((Math.textTo z u i) ++ [41]))) rfl rfl rfl ?_
     refine rNil ?_
     refine qSeq rfl ?_
     refine hRet ?_
     exact fun w hs => ⟨[sv (((Math.textTo z u i) ++ [41]))], ⟨rfl, trivial⟩, ⟨by exact vS (Math.text_step hT.2.1 (by omega) (by omega)).symm, hs.upd⟩⟩
   ·
    replace c2 : ¬ ((z.getD ((u).toNat) dN).fo < 0) := c2
    refine hSeq ?_
    refine hReg (sq 0 (sl 1 (sq 2 (sq 3 sz)))) (by kernel_rfl) ?_
    refine fld fl78_0 rfl rfl rfl ?_
    refine ldl Tryd.isAgg2 (cB 0 rfl rfl) trv rfl rfl rfl ?_
    refine eql rfl rfl rfl rfl ?_
    refine asB rfl rfl rfl ?_
    refine rNil ?_
    refine qSeq rfl ?_
    refine hIfD rfl (fun c4 => ?_) (fun c4 => ?_)
    ·
     replace c4 : (z.getD ((u).toNat) dN).pl = 2 := c4
     refine hReg (sq 0 (sl 1 (sl 2 (sq 3 (sq 4 sz))))) (by kernel_rfl) ?_
     refine fld fl78_3 rfl rfl rfl ?_
     refine ldl Tryd.isAgg2 (cB 0 rfl rfl) trv rfl rfl rfl ?_
     refine callP (v := sv ((Math.dec ((z.getD ((u).toNat) dN).fo)))) Tryd.call46 trv rfl rfl (fun w hs => impl_decimal_c _ w (Kn.drop (k := 2) ktab w hs) (by omega) (by omega)) ?_
     have hslq7 := show (Math.dec ((z.getD ((u).toNat) dN).fo)).length ≤ 3 from Math.dec_len3 (by omega)
     refine strAdd rfl rfl rfl rfl (by first | (simp only [List.length_append, List.length_cons, List.length_nil, List.length_map]; omega) | omega) ?_
     refine asn (v := sv (([40, 102] ++ (Math.dec ((z.getD ((u).toNat) dN).fo))))) rfl rfl rfl ?_
     refine rNil ?_
     refine qSeq rfl ?_
     refine hSeq ?_
     refine hDraw (Ls := [blk bka2 78 [.int .i64 ((z.getD ((u).toNat) dN).pl), .int .i64 ((z.getD ((u).toNat) dN).p0), .int .i64 ((z.getD ((u).toNat) dN).p1), .int .i64 ((z.getD ((u).toNat) dN).fo), .slice ((Hz ((u).toNat)).1) (((z.getD ((u).toNat) dN).ch).length) ((Hz ((u).toNat)).2)]]) (by kernel_rfl) (sq 0 (sq 1 (sq 2 (sq 6 (sq 7 (sl 3 (sq 4 (sq 5 (sl 8 (sq 9 (sq 10 (sq 11 sz)))))))))))) (by kernel_rfl) (.cons_cons _ (.cons _ .slnil)) ?_
     refine mv (v := sv (([40, 102] ++ (Math.dec ((z.getD ((u).toNat) dN).fo))))) rfl rfl rfl ?_
     refine fld fl78_1 rfl rfl rfl ?_
     refine ldq Tryd.isAgg2 (cB 0 rfl rfl) rfl rfl rfl ?_
     refine fld fl78_2 rfl rfl rfl ?_
     refine ldq Tryd.isAgg2 (cB 0 rfl rfl) rfl rfl rfl ?_
     refine callP (v := sv ((Math.dec ((z.getD ((u).toNat) dN).p0)))) Tryd.call46 (fun _ h => h.pick [0]) rfl rfl (fun w hs => impl_decimal_c _ w (Kn.drop (k := 2) ktab w hs) (by omega) (by omega)) ?_
     have hslq8 := show (Math.dec ((z.getD ((u).toNat) dN).p0)).length ≤ 3 from Math.dec_len3 (by omega)
     refine strAdd rfl rfl rfl rfl (by first | (simp only [List.length_append, List.length_cons, List.length_nil, List.length_map]; omega) | omega) ?_
     refine strAdd rfl rfl rfl rfl (by first | (simp only [List.length_append, List.length_cons, List.length_nil, List.length_map]; omega) | omega) ?_
     refine callP (v := sv ((Math.dec ((z.getD ((u).toNat) dN).p1)))) Tryd.call46 (fun _ h => h.pick [0]) rfl rfl (fun w hs => impl_decimal_c _ w (Kn.drop (k := 2) ktab w hs) (by omega) (by omega)) ?_
     have hslq9 := show (Math.dec ((z.getD ((u).toNat) dN).p1)).length ≤ 3 from Math.dec_len3 (by omega)
     refine strAdd rfl rfl rfl rfl (by first | (simp only [List.length_append, List.length_cons, List.length_nil, List.length_map]; omega) | omega) ?_
     refine strAdd rfl rfl rfl rfl (by first | (simp only [List.length_append, List.length_cons, List.length_nil, List.length_map]; omega) | omega) ?_
     refine asn (v := sv ((([40, 102] ++ (Math.dec ((z.getD ((u).toNat) dN).fo))) ++ ((([32] ++ (Math.dec ((z.getD ((u).toNat) dN).p0))) ++ [47]) ++ (Math.dec ((z.getD ((u).toNat) dN).p1)))))) rfl rfl rfl ?_
     refine rNil ?_
     refine qSeq rfl ?_
     refine hSeq ?_
     refine hSeq ?_
     refine hReg (sq 0 (sl 1 (sq 2 (sq 3 sz)))) (by kernel_rfl) ?_
     refine fld fl78_4 rfl rfl rfl ?_
     refine ldl Tryd.isAgg59 (cB 0 rfl rfl) trv rfl rfl rfl ?_
     refine lenS Tryd.runUnderlying59 rfl rfl rfl ?_
     refine mvI rfl rfl rfl ?_
     refine rNil ?_
     refine qSeq rfl ?_
     refine hBlk ?_
     rw [show (([40, 102] ++ (Math.dec ((z.getD ((u).toNat) dN).fo))) ++ ((([32] ++ (Math.dec ((z.getD ((u).toNat) dN).p0))) ++ [47]) ++ (Math.dec ((z.getD ((u).toNat) dN).p1)))) = Math.textTo z u 0 from by rw [Math.textTo_0]; unfold Math.openT; rw [Math.head_f (x := (z.getD u.toNat dN)) (by omega) (by omega)]; try simp only [List.cons_append, List.nil_append, List.append_assoc]]
     refine hLoop (α := Nat) (fun i => i ≤ (z.getD u.toNat dN).ch.length) (fun i => (z.getD u.toNat dN).ch.length - i) (fun i => [blk bka2 78 [.int .i64 ((z.getD ((u).toNat) dN).pl), .int .i64 ((z.getD ((u).toNat) dN).p0), .int .i64 ((z.getD ((u).toNat) dN).p1), .int .i64 ((z.getD ((u).toNat) dN).fo), .slice ((Hz ((u).toNat)).1) (((z.getD ((u).toNat) dN).ch).length) ((Hz ((u).toNat)).2)], blk bkb1 30 [.slice az nz cz]]) (fun i => [(2, .pointer (some ⟨bkb1, 0, none⟩)), (6, sv (Math.textTo z u i)), (47, .slice ((Hz ((u).toNat)).1) (((z.getD ((u).toNat) dN).ch).length) ((Hz ((u).toNat)).2)), (48, .int .i64 (((((z.getD ((u).toNat) dN).ch).length : Nat) : Int))), (49, .int .i64 (i : Int))]) 0 (Nat.zero_le _) (fun _ h => h.pick [0, 0]) ⟨rfl, rfl, rfl, rfl, rfl, trivial⟩ ?_
     rintro i τ2 hi
     have htl := Math.textTo_len ht (v := u) (by omega) hd i
     refine hSeq ?_
     refine hReg (sq 0 sz) (by kernel_rfl) ?_
     refine lss rfl rfl rfl rfl ?_
     refine rNil ?_
     refine qSeq rfl ?_
     refine hSeq ?_
     refine hIfD rfl (fun c5 => ?_) (fun c5 => ?_)
     ·
      replace c5 : (i : Int) < ((((z.getD ((u).toNat) dN).ch).length : Nat) : Int) := c5
      have hkd := Math.kid_ok ht (v := u) (by omega) hd (i := i) (by omega)
      refine hSkip ?_
      refine qSeq rfl ?_
      refine hSeq ?_
      refine hBlk ?_
      refine hSeq ?_
      refine hReg (sq 0 (sl 1 (sq 2 sz))) (by kernel_rfl) ?_
      refine ixIl (zn := i) el59 (Kn.drop (k := 2) ((Kn.imp kz fun _ h => h.kidN (nth dN (by omega))))) rfl rfl rfl rfl (by omega) (by omega) rfl ?_
      intro ae10 e10
      refine ldl Tryd.isAgg2 (e10) trv rfl rfl rfl ?_
      refine asI rfl rfl rfl ?_
      refine rNil ?_
      refine qSeq rfl ?_
      refine hReg (sq 0 (sl 1 (sq 2 (sl 3 (sq 4 (sq 5 sz)))))) (by kernel_rfl) ?_
      refine mv (v := sv (Math.textTo z u i)) rfl rfl rfl ?_
      refine ldAl Tryd.isAgg30 Tryd.sizeOf30 (cBs 1 rfl) trv rfl rfl rfl rfl ?_
      refine mvI rfl rfl rfl ?_
      refine callP (v := sv ((Math.text z ((((z.getD ((u).toNat) dN).ch).getD i 0))))) Tryd.call23 trv rfl rfl (fun w hs => ih _ (by omega) _ nz cz _ _ _ w rfl (Kn.drop (k := 2) kz w hs) (Kn.drop (k := 2) ktab w hs) (by assumption) (by omega) (by omega)) ?_
      have hslq11 := show (Math.text z ((((z.getD ((u).toNat) dN).ch).getD i 0))).length ≤ 62500 from Math.text_len (by assumption) ⟨by omega, by omega⟩ (by omega)
      refine strAdd rfl rfl rfl rfl (by first | (simp only [List.length_append, List.length_cons, List.length_nil, List.length_map]; omega) | omega) ?_
      refine asn (v := sv (((Math.textTo z u i) ++ (Math.text z ((((z.getD ((u).toNat) dN).ch).getD i 0)))))) rfl rfl rfl ?_
      refine rNil ?_
      refine qSeq rfl ?_
      refine hReg (sq 0 (sq 1 sz)) (by kernel_rfl) ?_
      refine add rfl rfl rfl rfl (by omega) ?_
      refine mvI rfl rfl rfl ?_
      refine rNil ?_
      rw [← Math.textTo_s (by omega)]
      exact qNext rfl (i + 1) (by omega) (by omega) ⟨rfl, rfl, rfl, rfl, rfl, trivial⟩ (fun _ h => h.pick [0, 0])
     ·
      replace c5 : ¬ ((i : Int) < ((((z.getD ((u).toNat) dN).ch).length : Nat) : Int)) := c5
      refine hExit rfl ?_
      refine qSeq rfl ?_
      refine hSeq ?_
      refine hReg (sq 0 (sq 1 (sq 2 sz))) (by kernel_rfl) ?_
      refine mv (v := sv (Math.textTo z u i)) rfl rfl rfl ?_
      refine strAdd rfl rfl rfl rfl (by first | (simp only [List.length_append, List.length_cons, List.length_nil, List.length_map]; omega) | omega) ?_
      refine asn (v := sv (((Math.textTo z u i) ++ [41]))) rfl rfl rfl ?_
      refine rNil ?_
      refine qSeq rfl ?_
      refine hRet ?_
      exact fun w hs => ⟨[sv (((Math.textTo z u i) ++ [41]))], ⟨rfl, trivial⟩, ⟨by exact vS (Math.text_step hT.2.1 (by omega) (by omega)).symm, hs.upd⟩⟩
    ·
     replace c4 : ¬ ((z.getD ((u).toNat) dN).pl = 2) := c4
     refine hSkip ?_
     refine qSeq rfl ?_
     refine hSeq ?_
     refine hDraw (Ls := [blk bka2 78 [.int .i64 ((z.getD ((u).toNat) dN).pl), .int .i64 ((z.getD ((u).toNat) dN).p0), .int .i64 ((z.getD ((u).toNat) dN).p1), .int .i64 ((z.getD ((u).toNat) dN).fo), .slice ((Hz ((u).toNat)).1) (((z.getD ((u).toNat) dN).ch).length) ((Hz ((u).toNat)).2)]]) (by kernel_rfl) (sq 0 (sq 1 (sq 2 (sq 6 (sq 7 (sl 3 (sq 4 (sq 5 (sl 8 (sq 9 (sq 10 (sq 11 sz)))))))))))) (by kernel_rfl) (.cons_cons _ (.cons _ .slnil)) ?_
     refine mv (v := sv (([40, 112] ++ (Math.dec ((z.getD ((u).toNat) dN).pl))))) rfl rfl rfl ?_
     refine fld fl78_1 rfl rfl rfl ?_
     refine ldq Tryd.isAgg2 (cB 0 rfl rfl) rfl rfl rfl ?_
     refine fld fl78_2 rfl rfl rfl ?_
     refine ldq Tryd.isAgg2 (cB 0 rfl rfl) rfl rfl rfl ?_
     refine callP (v := sv ((Math.dec ((z.getD ((u).toNat) dN).p0)))) Tryd.call46 (fun _ h => h.pick [0]) rfl rfl (fun w hs => impl_decimal_c _ w (Kn.drop (k := 2) ktab w hs) (by omega) (by omega)) ?_
     have hslq12 := show (Math.dec ((z.getD ((u).toNat) dN).p0)).length ≤ 3 from Math.dec_len3 (by omega)
     refine strAdd rfl rfl rfl rfl (by first | (simp only [List.length_append, List.length_cons, List.length_nil, List.length_map]; omega) | omega) ?_
     refine strAdd rfl rfl rfl rfl (by first | (simp only [List.length_append, List.length_cons, List.length_nil, List.length_map]; omega) | omega) ?_
     refine callP (v := sv ((Math.dec ((z.getD ((u).toNat) dN).p1)))) Tryd.call46 (fun _ h => h.pick [0]) rfl rfl (fun w hs => impl_decimal_c _ w (Kn.drop (k := 2) ktab w hs) (by omega) (by omega)) ?_
     have hslq13 := show (Math.dec ((z.getD ((u).toNat) dN).p1)).length ≤ 3 from Math.dec_len3 (by omega)
     refine strAdd rfl rfl rfl rfl (by first | (simp only [List.length_append, List.length_cons, List.length_nil, List.length_map]; omega) | omega) ?_
     refine strAdd rfl rfl rfl rfl (by first | (simp only [List.length_append, List.length_cons, List.length_nil, List.length_map]; omega) | omega) ?_
     refine asn (v := sv ((([40, 112] ++ (Math.dec ((z.getD ((u).toNat) dN).pl))) ++ ((([32] ++ (Math.dec ((z.getD ((u).toNat) dN).p0))) ++ [47]) ++ (Math.dec ((z.getD ((u).toNat) dN).p1)))))) rfl rfl rfl ?_
     refine rNil ?_
     refine qSeq rfl ?_
     refine hSeq ?_
     refine hSeq ?_
     refine hReg (sq 0 (sl 1 (sq 2 (sq 3 sz)))) (by kernel_rfl) ?_
     refine fld fl78_4 rfl rfl rfl ?_
     refine ldl Tryd.isAgg59 (cB 0 rfl rfl) trv rfl rfl rfl ?_
     refine lenS Tryd.runUnderlying59 rfl rfl rfl ?_
     refine mvI rfl rfl rfl ?_
     refine rNil ?_
     refine qSeq rfl ?_
     refine hBlk ?_
     rw [show (([40, 112] ++ (Math.dec ((z.getD ((u).toNat) dN).pl))) ++ ((([32] ++ (Math.dec ((z.getD ((u).toNat) dN).p0))) ++ [47]) ++ (Math.dec ((z.getD ((u).toNat) dN).p1)))) = Math.textTo z u 0 from by rw [Math.textTo_0]; unfold Math.openT; rw [Math.head_p (x := (z.getD u.toNat dN)) (by omega)]; try simp only [List.cons_append, List.nil_append, List.append_assoc]]
     refine hLoop (α := Nat) (fun i => i ≤ (z.getD u.toNat dN).ch.length) (fun i => (z.getD u.toNat dN).ch.length - i) (fun i => [blk bka2 78 [.int .i64 ((z.getD ((u).toNat) dN).pl), .int .i64 ((z.getD ((u).toNat) dN).p0), .int .i64 ((z.getD ((u).toNat) dN).p1), .int .i64 ((z.getD ((u).toNat) dN).fo), .slice ((Hz ((u).toNat)).1) (((z.getD ((u).toNat) dN).ch).length) ((Hz ((u).toNat)).2)], blk bkb1 30 [.slice az nz cz]]) (fun i => [(2, .pointer (some ⟨bkb1, 0, none⟩)), (6, sv (Math.textTo z u i)), (47, .slice ((Hz ((u).toNat)).1) (((z.getD ((u).toNat) dN).ch).length) ((Hz ((u).toNat)).2)), (48, .int .i64 (((((z.getD ((u).toNat) dN).ch).length : Nat) : Int))), (49, .int .i64 (i : Int))]) 0 (Nat.zero_le _) (fun _ h => h.pick [0, 0]) ⟨rfl, rfl, rfl, rfl, rfl, trivial⟩ ?_
     rintro i τ3 hi
     have htl := Math.textTo_len ht (v := u) (by omega) hd i
     refine hSeq ?_
     refine hReg (sq 0 sz) (by kernel_rfl) ?_
     refine lss rfl rfl rfl rfl ?_
     refine rNil ?_
     refine qSeq rfl ?_
     refine hSeq ?_
     refine hIfD rfl (fun c6 => ?_) (fun c6 => ?_)
     ·
      replace c6 : (i : Int) < ((((z.getD ((u).toNat) dN).ch).length : Nat) : Int) := c6
      have hkd := Math.kid_ok ht (v := u) (by omega) hd (i := i) (by omega)
      refine hSkip ?_
      refine qSeq rfl ?_
      refine hSeq ?_
      refine hBlk ?_
      refine hSeq ?_
      refine hReg (sq 0 (sl 1 (sq 2 sz))) (by kernel_rfl) ?_
      refine ixIl (zn := i) el59 (Kn.drop (k := 2) ((Kn.imp kz fun _ h => h.kidN (nth dN (by omega))))) rfl rfl rfl rfl (by omega) (by omega) rfl ?_
      intro ae14 e14
      refine ldl Tryd.isAgg2 (e14) trv rfl rfl rfl ?_
      refine asI rfl rfl rfl ?_
      refine rNil ?_
      refine qSeq rfl ?_
      refine hReg (sq 0 (sl 1 (sq 2 (sl 3 (sq 4 (sq 5 sz)))))) (by kernel_rfl) ?_
      refine mv (v := sv (Math.textTo z u i)) rfl rfl rfl ?_
      refine ldAl Tryd.isAgg30 Tryd.sizeOf30 (cBs 1 rfl) trv rfl rfl rfl rfl ?_
      refine mvI rfl rfl rfl ?_
      refine callP (v := sv ((Math.text z ((((z.getD ((u).toNat) dN).ch).getD i 0))))) Tryd.call23 trv rfl rfl (fun w hs => ih _ (by omega) _ nz cz _ _ _ w rfl (Kn.drop (k := 2) kz w hs) (Kn.drop (k := 2) ktab w hs) (by assumption) (by omega) (by omega)) ?_
      have hslq15 := show (Math.text z ((((z.getD ((u).toNat) dN).ch).getD i 0))).length ≤ 62500 from Math.text_len (by assumption) ⟨by omega, by omega⟩ (by omega)
      refine strAdd rfl rfl rfl rfl (by first | (simp only [List.length_append, List.length_cons, List.length_nil, List.length_map]; omega) | omega) ?_
      refine asn (v := sv (((Math.textTo z u i) ++ (Math.text z ((((z.getD ((u).toNat) dN).ch).getD i 0)))))) rfl rfl rfl ?_
      refine rNil ?_
      refine qSeq rfl ?_
      refine hReg (sq 0 (sq 1 sz)) (by kernel_rfl) ?_
      refine add rfl rfl rfl rfl (by omega) ?_
      refine mvI rfl rfl rfl ?_
      refine rNil ?_
      rw [← Math.textTo_s (by omega)]
      exact qNext rfl (i + 1) (by omega) (by omega) ⟨rfl, rfl, rfl, rfl, rfl, trivial⟩ (fun _ h => h.pick [0, 0])
     ·
      replace c6 : ¬ ((i : Int) < ((((z.getD ((u).toNat) dN).ch).length : Nat) : Int)) := c6
      refine hExit rfl ?_
      refine qSeq rfl ?_
      refine hSeq ?_
      refine hReg (sq 0 (sq 1 (sq 2 sz))) (by kernel_rfl) ?_
      refine mv (v := sv (Math.textTo z u i)) rfl rfl rfl ?_
      refine strAdd rfl rfl rfl rfl (by first | (simp only [List.length_append, List.length_cons, List.length_nil, List.length_map]; omega) | omega) ?_
      refine asn (v := sv (((Math.textTo z u i) ++ [41]))) rfl rfl rfl ?_
      refine rNil ?_
      refine qSeq rfl ?_
      refine hRet ?_
      exact fun w hs => ⟨[sv (((Math.textTo z u i) ++ [41]))], ⟨rfl, trivial⟩, ⟨by exact vS (Math.text_step hT.2.1 (by omega) (by omega)).symm, hs.upd⟩⟩
  ·
   replace g1 : ¬ ((z.getD ((u).toNat) dN).pl = 2) := g1
   refine rSkipQ rfl rfl ?_
   refine rSkipL trv rfl rfl ?_
   refine rSkipQ rfl rfl ?_
   refine pickB rfl rfl rfl rfl ?_
   refine asB rfl rfl rfl ?_
   refine rNil ?_
   refine qSeq rfl ?_
   refine hIfF rfl ?_
   refine hSeq ?_
   refine hReg (sq 0 (sl 1 (sq 2 (sq 3 sz)))) (by kernel_rfl) ?_
   refine fld fl78_0 rfl rfl rfl ?_
   refine ldl Tryd.isAgg2 (cB 0 rfl rfl) trv rfl rfl rfl ?_
   refine eql rfl rfl rfl rfl ?_
   refine asB rfl rfl rfl ?_
   refine rNil ?_
   refine qSeq rfl ?_
   refine hIfD rfl (fun c7 => ?_) (fun c7 => ?_)
   ·
    replace c7 : (z.getD ((u).toNat) dN).pl = 2 := c7
    refine hReg (sq 0 (sl 1 (sl 2 (sq 3 (sq 4 sz))))) (by kernel_rfl) ?_
    refine fld fl78_3 rfl rfl rfl ?_
    refine ldl Tryd.isAgg2 (cB 0 rfl rfl) trv rfl rfl rfl ?_
    refine callP (v := sv ((Math.dec ((z.getD ((u).toNat) dN).fo)))) Tryd.call46 trv rfl rfl (fun w hs => impl_decimal_c _ w (Kn.drop (k := 2) ktab w hs) (by omega) (by omega)) ?_
    have hslq16 := show (Math.dec ((z.getD ((u).toNat) dN).fo)).length ≤ 3 from Math.dec_len3 (by omega)
    refine strAdd rfl rfl rfl rfl (by first | (simp only [List.length_append, List.length_cons, List.length_nil, List.length_map]; omega) | omega) ?_
    refine asn (v := sv (([40, 102] ++ (Math.dec ((z.getD ((u).toNat) dN).fo))))) rfl rfl rfl ?_
    refine rNil ?_
    refine qSeq rfl ?_
    refine hSeq ?_
    refine hDraw (Ls := [blk bka2 78 [.int .i64 ((z.getD ((u).toNat) dN).pl), .int .i64 ((z.getD ((u).toNat) dN).p0), .int .i64 ((z.getD ((u).toNat) dN).p1), .int .i64 ((z.getD ((u).toNat) dN).fo), .slice ((Hz ((u).toNat)).1) (((z.getD ((u).toNat) dN).ch).length) ((Hz ((u).toNat)).2)]]) (by kernel_rfl) (sq 0 (sq 1 (sq 2 (sq 6 (sq 7 (sl 3 (sq 4 (sq 5 (sl 8 (sq 9 (sq 10 (sq 11 sz)))))))))))) (by kernel_rfl) (.cons_cons _ (.cons _ .slnil)) ?_
    refine mv (v := sv (([40, 102] ++ (Math.dec ((z.getD ((u).toNat) dN).fo))))) rfl rfl rfl ?_
    refine fld fl78_1 rfl rfl rfl ?_
    refine ldq Tryd.isAgg2 (cB 0 rfl rfl) rfl rfl rfl ?_
    refine fld fl78_2 rfl rfl rfl ?_
    refine ldq Tryd.isAgg2 (cB 0 rfl rfl) rfl rfl rfl ?_
    refine callP (v := sv ((Math.dec ((z.getD ((u).toNat) dN).p0)))) Tryd.call46 (fun _ h => h.pick [0]) rfl rfl (fun w hs => impl_decimal_c _ w (Kn.drop (k := 2) ktab w hs) (by omega) (by omega)) ?_
    have hslq17 := show (Math.dec ((z.getD ((u).toNat) dN).p0)).length ≤ 3 from Math.dec_len3 (by omega)
    refine strAdd rfl rfl rfl rfl (by first | (simp only [List.length_append, List.length_cons, List.length_nil, List.length_map]; omega) | omega) ?_
    refine strAdd rfl rfl rfl rfl (by first | (simp only [List.length_append, List.length_cons, List.length_nil, List.length_map]; omega) | omega) ?_
    refine callP (v := sv ((Math.dec ((z.getD ((u).toNat) dN).p1)))) Tryd.call46 (fun _ h => h.pick [0]) rfl rfl (fun w hs => impl_decimal_c _ w (Kn.drop (k := 2) ktab w hs) (by omega) (by omega)) ?_
    have hslq18 := show (Math.dec ((z.getD ((u).toNat) dN).p1)).length ≤ 3 from Math.dec_len3 (by omega)
    refine strAdd rfl rfl rfl rfl (by first | (simp only [List.length_append, List.length_cons, List.length_nil, List.length_map]; omega) | omega) ?_
    refine strAdd rfl rfl rfl rfl (by first | (simp only [List.length_append, List.length_cons, List.length_nil, List.length_map]; omega) | omega) ?_
    refine asn (v := sv ((([40, 102] ++ (Math.dec ((z.getD ((u).toNat) dN).fo))) ++ ((([32] ++ (Math.dec ((z.getD ((u).toNat) dN).p0))) ++ [47]) ++ (Math.dec ((z.getD ((u).toNat) dN).p1)))))) rfl rfl rfl ?_
    refine rNil ?_
    refine qSeq rfl ?_
    refine hSeq ?_
    refine hSeq ?_
    refine hReg (sq 0 (sl 1 (sq 2 (sq 3 sz)))) (by kernel_rfl) ?_
    refine fld fl78_4 rfl rfl rfl ?_
    refine ldl Tryd.isAgg59 (cB 0 rfl rfl) trv rfl rfl rfl ?_
    refine lenS Tryd.runUnderlying59 rfl rfl rfl ?_
    refine mvI rfl rfl rfl ?_
    refine rNil ?_
    refine qSeq rfl ?_
    refine hBlk ?_
    rw [show (([40, 102] ++ (Math.dec ((z.getD ((u).toNat) dN).fo))) ++ ((([32] ++ (Math.dec ((z.getD ((u).toNat) dN).p0))) ++ [47]) ++ (Math.dec ((z.getD ((u).toNat) dN).p1)))) = Math.textTo z u 0 from by rw [Math.textTo_0]; unfold Math.openT; rw [Math.head_f (x := (z.getD u.toNat dN)) (by omega) (by omega)]; try simp only [List.cons_append, List.nil_append, List.append_assoc]]
    refine hLoop (α := Nat) (fun i => i ≤ (z.getD u.toNat dN).ch.length) (fun i => (z.getD u.toNat dN).ch.length - i) (fun i => [blk bka2 78 [.int .i64 ((z.getD ((u).toNat) dN).pl), .int .i64 ((z.getD ((u).toNat) dN).p0), .int .i64 ((z.getD ((u).toNat) dN).p1), .int .i64 ((z.getD ((u).toNat) dN).fo), .slice ((Hz ((u).toNat)).1) (((z.getD ((u).toNat) dN).ch).length) ((Hz ((u).toNat)).2)], blk bkb1 30 [.slice az nz cz]]) (fun i => [(2, .pointer (some ⟨bkb1, 0, none⟩)), (6, sv (Math.textTo z u i)), (47, .slice ((Hz ((u).toNat)).1) (((z.getD ((u).toNat) dN).ch).length) ((Hz ((u).toNat)).2)), (48, .int .i64 (((((z.getD ((u).toNat) dN).ch).length : Nat) : Int))), (49, .int .i64 (i : Int))]) 0 (Nat.zero_le _) (fun _ h => h.pick [0, 0]) ⟨rfl, rfl, rfl, rfl, rfl, trivial⟩ ?_
    rintro i τ4 hi
    have htl := Math.textTo_len ht (v := u) (by omega) hd i
    refine hSeq ?_
    refine hReg (sq 0 sz) (by kernel_rfl) ?_
    refine lss rfl rfl rfl rfl ?_
    refine rNil ?_
    refine qSeq rfl ?_
    refine hSeq ?_
    refine hIfD rfl (fun c8 => ?_) (fun c8 => ?_)
    ·
     replace c8 : (i : Int) < ((((z.getD ((u).toNat) dN).ch).length : Nat) : Int) := c8
     have hkd := Math.kid_ok ht (v := u) (by omega) hd (i := i) (by omega)
     refine hSkip ?_
     refine qSeq rfl ?_
     refine hSeq ?_
     refine hBlk ?_
     refine hSeq ?_
     refine hReg (sq 0 (sl 1 (sq 2 sz))) (by kernel_rfl) ?_
     refine ixIl (zn := i) el59 (Kn.drop (k := 2) ((Kn.imp kz fun _ h => h.kidN (nth dN (by omega))))) rfl rfl rfl rfl (by omega) (by omega) rfl ?_
     intro ae19 e19
     refine ldl Tryd.isAgg2 (e19) trv rfl rfl rfl ?_
     refine asI rfl rfl rfl ?_
     refine rNil ?_
     refine qSeq rfl ?_
     refine hReg (sq 0 (sl 1 (sq 2 (sl 3 (sq 4 (sq 5 sz)))))) (by kernel_rfl) ?_
     refine mv (v := sv (Math.textTo z u i)) rfl rfl rfl ?_
     refine ldAl Tryd.isAgg30 Tryd.sizeOf30 (cBs 1 rfl) trv rfl rfl rfl rfl ?_
     refine mvI rfl rfl rfl ?_
     refine callP (v := sv ((Math.text z ((((z.getD ((u).toNat) dN).ch).getD i 0))))) Tryd.call23 trv rfl rfl (fun w hs => ih _ (by omega) _ nz cz _ _ _ w rfl (Kn.drop (k := 2) kz w hs) (Kn.drop (k := 2) ktab w hs) (by assumption) (by omega) (by omega)) ?_
     have hslq20 := show (Math.text z ((((z.getD ((u).toNat) dN).ch).getD i 0))).length ≤ 62500 from Math.text_len (by assumption) ⟨by omega, by omega⟩ (by omega)
     refine strAdd rfl rfl rfl rfl (by first | (simp only [List.length_append, List.length_cons, List.length_nil, List.length_map]; omega) | omega) ?_
     refine asn (v := sv (((Math.textTo z u i) ++ (Math.text z ((((z.getD ((u).toNat) dN).ch).getD i 0)))))) rfl rfl rfl ?_
     refine rNil ?_
     refine qSeq rfl ?_
     refine hReg (sq 0 (sq 1 sz)) (by kernel_rfl) ?_
     refine add rfl rfl rfl rfl (by omega) ?_
     refine mvI rfl rfl rfl ?_
     refine rNil ?_
     rw [← Math.textTo_s (by omega)]
     exact qNext rfl (i + 1) (by omega) (by omega) ⟨rfl, rfl, rfl, rfl, rfl, trivial⟩ (fun _ h => h.pick [0, 0])
    ·
     replace c8 : ¬ ((i : Int) < ((((z.getD ((u).toNat) dN).ch).length : Nat) : Int)) := c8
     refine hExit rfl ?_
     refine qSeq rfl ?_
     refine hSeq ?_
     refine hReg (sq 0 (sq 1 (sq 2 sz))) (by kernel_rfl) ?_
     refine mv (v := sv (Math.textTo z u i)) rfl rfl rfl ?_
     refine strAdd rfl rfl rfl rfl (by first | (simp only [List.length_append, List.length_cons, List.length_nil, List.length_map]; omega) | omega) ?_
     refine asn (v := sv (((Math.textTo z u i) ++ [41]))) rfl rfl rfl ?_
     refine rNil ?_
     refine qSeq rfl ?_
     refine hRet ?_
     exact fun w hs => ⟨[sv (((Math.textTo z u i) ++ [41]))], ⟨rfl, trivial⟩, ⟨by exact vS (Math.text_step hT.2.1 (by omega) (by omega)).symm, hs.upd⟩⟩
   ·
    replace c7 : ¬ ((z.getD ((u).toNat) dN).pl = 2) := c7
    refine hSkip ?_
    refine qSeq rfl ?_
    refine hSeq ?_
    refine hDraw (Ls := [blk bka2 78 [.int .i64 ((z.getD ((u).toNat) dN).pl), .int .i64 ((z.getD ((u).toNat) dN).p0), .int .i64 ((z.getD ((u).toNat) dN).p1), .int .i64 ((z.getD ((u).toNat) dN).fo), .slice ((Hz ((u).toNat)).1) (((z.getD ((u).toNat) dN).ch).length) ((Hz ((u).toNat)).2)]]) (by kernel_rfl) (sq 0 (sq 1 (sq 2 (sq 6 (sq 7 (sl 3 (sq 4 (sq 5 (sl 8 (sq 9 (sq 10 (sq 11 sz)))))))))))) (by kernel_rfl) (.cons_cons _ (.cons _ .slnil)) ?_
    refine mv (v := sv (([40, 112] ++ (Math.dec ((z.getD ((u).toNat) dN).pl))))) rfl rfl rfl ?_
    refine fld fl78_1 rfl rfl rfl ?_
    refine ldq Tryd.isAgg2 (cB 0 rfl rfl) rfl rfl rfl ?_
    refine fld fl78_2 rfl rfl rfl ?_
    refine ldq Tryd.isAgg2 (cB 0 rfl rfl) rfl rfl rfl ?_
    refine callP (v := sv ((Math.dec ((z.getD ((u).toNat) dN).p0)))) Tryd.call46 (fun _ h => h.pick [0]) rfl rfl (fun w hs => impl_decimal_c _ w (Kn.drop (k := 2) ktab w hs) (by omega) (by omega)) ?_
    have hslq21 := show (Math.dec ((z.getD ((u).toNat) dN).p0)).length ≤ 3 from Math.dec_len3 (by omega)
    refine strAdd rfl rfl rfl rfl (by first | (simp only [List.length_append, List.length_cons, List.length_nil, List.length_map]; omega) | omega) ?_
    refine strAdd rfl rfl rfl rfl (by first | (simp only [List.length_append, List.length_cons, List.length_nil, List.length_map]; omega) | omega) ?_
    refine callP (v := sv ((Math.dec ((z.getD ((u).toNat) dN).p1)))) Tryd.call46 (fun _ h => h.pick [0]) rfl rfl (fun w hs => impl_decimal_c _ w (Kn.drop (k := 2) ktab w hs) (by omega) (by omega)) ?_
    have hslq22 := show (Math.dec ((z.getD ((u).toNat) dN).p1)).length ≤ 3 from Math.dec_len3 (by omega)
    refine strAdd rfl rfl rfl rfl (by first | (simp only [List.length_append, List.length_cons, List.length_nil, List.length_map]; omega) | omega) ?_
    refine strAdd rfl rfl rfl rfl (by first | (simp only [List.length_append, List.length_cons, List.length_nil, List.length_map]; omega) | omega) ?_
    refine asn (v := sv ((([40, 112] ++ (Math.dec ((z.getD ((u).toNat) dN).pl))) ++ ((([32] ++ (Math.dec ((z.getD ((u).toNat) dN).p0))) ++ [47]) ++ (Math.dec ((z.getD ((u).toNat) dN).p1)))))) rfl rfl rfl ?_
    refine rNil ?_
    refine qSeq rfl ?_
    refine hSeq ?_
    refine hSeq ?_
    refine hReg (sq 0 (sl 1 (sq 2 (sq 3 sz)))) (by kernel_rfl) ?_
    refine fld fl78_4 rfl rfl rfl ?_
    refine ldl Tryd.isAgg59 (cB 0 rfl rfl) trv rfl rfl rfl ?_
    refine lenS Tryd.runUnderlying59 rfl rfl rfl ?_
    refine mvI rfl rfl rfl ?_
    refine rNil ?_
    refine qSeq rfl ?_
    refine hBlk ?_
    rw [show (([40, 112] ++ (Math.dec ((z.getD ((u).toNat) dN).pl))) ++ ((([32] ++ (Math.dec ((z.getD ((u).toNat) dN).p0))) ++ [47]) ++ (Math.dec ((z.getD ((u).toNat) dN).p1)))) = Math.textTo z u 0 from by rw [Math.textTo_0]; unfold Math.openT; rw [Math.head_p (x := (z.getD u.toNat dN)) (by omega)]; try simp only [List.cons_append, List.nil_append, List.append_assoc]]
    refine hLoop (α := Nat) (fun i => i ≤ (z.getD u.toNat dN).ch.length) (fun i => (z.getD u.toNat dN).ch.length - i) (fun i => [blk bka2 78 [.int .i64 ((z.getD ((u).toNat) dN).pl), .int .i64 ((z.getD ((u).toNat) dN).p0), .int .i64 ((z.getD ((u).toNat) dN).p1), .int .i64 ((z.getD ((u).toNat) dN).fo), .slice ((Hz ((u).toNat)).1) (((z.getD ((u).toNat) dN).ch).length) ((Hz ((u).toNat)).2)], blk bkb1 30 [.slice az nz cz]]) (fun i => [(2, .pointer (some ⟨bkb1, 0, none⟩)), (6, sv (Math.textTo z u i)), (47, .slice ((Hz ((u).toNat)).1) (((z.getD ((u).toNat) dN).ch).length) ((Hz ((u).toNat)).2)), (48, .int .i64 (((((z.getD ((u).toNat) dN).ch).length : Nat) : Int))), (49, .int .i64 (i : Int))]) 0 (Nat.zero_le _) (fun _ h => h.pick [0, 0]) ⟨rfl, rfl, rfl, rfl, rfl, trivial⟩ ?_
    rintro i τ5 hi
    have htl := Math.textTo_len ht (v := u) (by omega) hd i
    refine hSeq ?_
    refine hReg (sq 0 sz) (by kernel_rfl) ?_
    refine lss rfl rfl rfl rfl ?_
    refine rNil ?_
    refine qSeq rfl ?_
    refine hSeq ?_
    refine hIfD rfl (fun c9 => ?_) (fun c9 => ?_)
    ·
     replace c9 : (i : Int) < ((((z.getD ((u).toNat) dN).ch).length : Nat) : Int) := c9
     have hkd := Math.kid_ok ht (v := u) (by omega) hd (i := i) (by omega)
     refine hSkip ?_
     refine qSeq rfl ?_
     refine hSeq ?_
     refine hBlk ?_
     refine hSeq ?_
     refine hReg (sq 0 (sl 1 (sq 2 sz))) (by kernel_rfl) ?_
     refine ixIl (zn := i) el59 (Kn.drop (k := 2) ((Kn.imp kz fun _ h => h.kidN (nth dN (by omega))))) rfl rfl rfl rfl (by omega) (by omega) rfl ?_
     intro ae23 e23
     refine ldl Tryd.isAgg2 (e23) trv rfl rfl rfl ?_
     refine asI rfl rfl rfl ?_
     refine rNil ?_
     refine qSeq rfl ?_
     refine hReg (sq 0 (sl 1 (sq 2 (sl 3 (sq 4 (sq 5 sz)))))) (by kernel_rfl) ?_
     refine mv (v := sv (Math.textTo z u i)) rfl rfl rfl ?_
     refine ldAl Tryd.isAgg30 Tryd.sizeOf30 (cBs 1 rfl) trv rfl rfl rfl rfl ?_
     refine mvI rfl rfl rfl ?_
     refine callP (v := sv ((Math.text z ((((z.getD ((u).toNat) dN).ch).getD i 0))))) Tryd.call23 trv rfl rfl (fun w hs => ih _ (by omega) _ nz cz _ _ _ w rfl (Kn.drop (k := 2) kz w hs) (Kn.drop (k := 2) ktab w hs) (by assumption) (by omega) (by omega)) ?_
     have hslq24 := show (Math.text z ((((z.getD ((u).toNat) dN).ch).getD i 0))).length ≤ 62500 from Math.text_len (by assumption) ⟨by omega, by omega⟩ (by omega)
     refine strAdd rfl rfl rfl rfl (by first | (simp only [List.length_append, List.length_cons, List.length_nil, List.length_map]; omega) | omega) ?_
     refine asn (v := sv (((Math.textTo z u i) ++ (Math.text z ((((z.getD ((u).toNat) dN).ch).getD i 0)))))) rfl rfl rfl ?_
     refine rNil ?_
     refine qSeq rfl ?_
     refine hReg (sq 0 (sq 1 sz)) (by kernel_rfl) ?_
     refine add rfl rfl rfl rfl (by omega) ?_
     refine mvI rfl rfl rfl ?_
     refine rNil ?_
     rw [← Math.textTo_s (by omega)]
     exact qNext rfl (i + 1) (by omega) (by omega) ⟨rfl, rfl, rfl, rfl, rfl, trivial⟩ (fun _ h => h.pick [0, 0])
    ·
     replace c9 : ¬ ((i : Int) < ((((z.getD ((u).toNat) dN).ch).length : Nat) : Int)) := c9
     refine hExit rfl ?_
     refine qSeq rfl ?_
     refine hSeq ?_
     refine hReg (sq 0 (sq 1 (sq 2 sz))) (by kernel_rfl) ?_
     refine mv (v := sv (Math.textTo z u i)) rfl rfl rfl ?_
     refine strAdd rfl rfl rfl rfl (by first | (simp only [List.length_append, List.length_cons, List.length_nil, List.length_map]; omega) | omega) ?_
     refine asn (v := sv (((Math.textTo z u i) ++ [41]))) rfl rfl rfl ?_
     refine rNil ?_
     refine qSeq rfl ?_
     refine hRet ?_
     exact fun w hs => ⟨[sv (((Math.textTo z u i) ++ [41]))], ⟨rfl, trivial⟩, ⟨by exact vS (Math.text_step hT.2.1 (by omega) (by omega)).symm, hs.upd⟩⟩
theorem impl_treeText_c (az : Option Addr) (nz : Nat) (cz : Nat) (Hz : Nat → Hd) (z : List Nd) (u : Int) (w : World) (rz : RdR ndK az nz Hz z w) (rtab : TabP w) (ht : Math.isTree z = true) (hu : 0 ≤ u ∧ u < nz) (hd : Math.depth z u.toNat ≤ 5) :
  Calls Tryd.prog 23 #[.agg #[.slice az nz cz], .int .i64 u] w (Ret fun v w' => v = sv (Math.text z u) ∧ Ext w w') := impl_treeText_c_r _ az nz cz Hz z u w rfl rz rtab ht hu hd
theorem impl_TreeText_c (az : Option Addr) (nz : Nat) (cz : Nat) (Hz : Nat → Hd) (z : List Nd) (w : World) (rz : RdR ndK az nz Hz z w) (rtab : TabP w) :
  Calls Tryd.prog 8 #[.agg #[.slice az nz cz]] w (Ret fun v w' => v = .tuple #[sv ((Math.textAt z).1), .int .i64 ((Math.textAt z).2)] ∧ Ext w w') := by
 have kz : Kn w none_ [] (RdR ndK az nz Hz z) := fun w' hs => rz.ext hs.upd
 have lz : z.length = nz := rz.1
 have mz : nz ≤ 9223372036854775807 := rz.2.1
 have ktab : Kn w none_ [] (TabP) := fun w' hs => rtab.ext hs.upd
 refine fn (M := none_) (rs := [.tmp 2, .tmp 3]) Tryd.func8 rfl Tryd.ntmps8 rfl rfl (Sep.start _ _) ?_
 refine hSeq ?_
 refine hReg (sl 0 (sq 1 (sq 2 sz))) (by kernel_rfl) ?_
 refine box trv1 rfl rfl rfl rfl (fun bkb1 hbkb1 => ?_)
 refine asn (v := sv []) rfl rfl rfl ?_
 refine asI rfl rfl rfl ?_
 refine rNil ?_
 refine qSeq rfl ?_
 refine hSeq ?_
 refine hSeq ?_
 refine hReg (sl 0 (sl 1 (sq 2 sz))) (by kernel_rfl) ?_
 refine ldAl Tryd.isAgg30 Tryd.sizeOf30 (cBs 0 rfl) trv rfl rfl rfl rfl ?_
 refine callP (v := .bool (Math.isTree z)) Tryd.call22 trv rfl rfl (fun w hs => impl_IsTree_c _ nz cz _ _ w (Kn.drop (k := 1) kz w hs)) ?_
 refine not rfl rfl rfl ?_
 refine rNil ?_
 refine qSeq rfl ?_
 refine hIfN rfl (fun c1 => ?_) (fun c1 => ?_)
 ·
  replace c1 : (Math.isTree z) = false := c1
  refine hSeq ?_
  refine hReg (sq 0 (sq 1 sz)) (by kernel_rfl) ?_
  refine asn (v := sv []) rfl rfl rfl ?_
  refine asI rfl rfl rfl ?_
  refine rNil ?_
  refine qSeq rfl ?_
  refine hRet ?_
  exact fun w hs => ⟨[sv [], .int .i64 1], ⟨rfl, ⟨rfl, trivial⟩⟩, ⟨by rw [Math.textAt_1 (by assumption)]; rfl, hs.upd⟩⟩
 ·
  replace c1 : (Math.isTree z) = true := c1
  have hT := Math.isTree_ok c1
  have hd0 : Math.depth z (Int.toNat 0) ≤ 5 := hT.2.2.2.2
  refine hSkip ?_
  refine qSeq rfl ?_
  refine hSeq ?_
  refine hReg (sl 0 (sl 1 (sq 2 (sq 3 sz)))) (by kernel_rfl) ?_
  refine ldAl Tryd.isAgg30 Tryd.sizeOf30 (cBs 0 rfl) trv rfl rfl rfl rfl ?_
  refine callP (v := sv ((Math.text z (0 : Int)))) Tryd.call23 trv rfl rfl (fun w hs => impl_treeText_c _ nz cz _ _ _ w (Kn.drop (k := 1) kz w hs) (Kn.drop (k := 1) ktab w hs) (by assumption) (by omega) (by omega)) ?_
  have hslq1 := show (Math.text z (0 : Int)).length ≤ 62500 from Math.text_len (by assumption) ⟨by omega, by omega⟩ (by omega)
  refine asn (v := sv ((Math.text z (0 : Int)))) rfl rfl rfl ?_
  refine asI rfl rfl rfl ?_
  refine rNil ?_
  refine qSeq rfl ?_
  refine hRet ?_
  exact fun w hs => ⟨[sv ((Math.text z (0 : Int))), .int .i64 0], ⟨rfl, ⟨rfl, trivial⟩⟩, ⟨by rw [Math.textAt_0 (by assumption)]; rfl, hs.upd⟩⟩
theorem spec_TreeText_c (az : Option Addr) (nz : Nat) (cz : Nat) (Hz : Nat → Hd) (z : List Nd) (w : World) (rz : RdR ndK az nz Hz z w) :
  Calls Tryd.prog 6 #[.agg #[.slice az nz cz]] w (Ret fun v w' => v = .tuple #[sv ((Math.textAt z).1), .int .i64 ((Math.textAt z).2)] ∧ Ext w w') := by
 have kz : Kn w none_ [] (RdR ndK az nz Hz z) := fun w' hs => rz.ext hs.upd
 have lz : z.length = nz := rz.1
 have mz : nz ≤ 9223372036854775807 := rz.2.1
 refine fn (M := none_) (rs := [.tmp 2, .tmp 3]) Tryd.func6 rfl Tryd.ntmps6 rfl rfl (Sep.start _ _) ?_
 refine hSeq ?_
 refine hReg (sl 0 (sq 1 (sq 2 sz))) (by kernel_rfl) ?_
 refine box trv1 rfl rfl rfl rfl (fun bkb1 hbkb1 => ?_)
 refine asn (v := sv []) rfl rfl rfl ?_
 refine asI rfl rfl rfl ?_
 refine rNil ?_
 refine qSeq rfl ?_
 refine hSeq ?_
 refine hSeq ?_
 refine hReg (sl 0 (sl 1 (sq 2 sz))) (by kernel_rfl) ?_
 refine ldAl Tryd.isAgg30 Tryd.sizeOf30 (cBs 0 rfl) trv rfl rfl rfl rfl ?_
 refine callP (v := .bool (Math.isTree z)) Tryd.call19 trv rfl rfl (fun w hs => spec_IsTree_c _ nz cz _ _ w (Kn.drop (k := 1) kz w hs)) ?_
 refine not rfl rfl rfl ?_
 refine rNil ?_
 refine qSeq rfl ?_
 refine hIfN rfl (fun c1 => ?_) (fun c1 => ?_)
 ·
  replace c1 : (Math.isTree z) = false := c1
  refine hSeq ?_
  refine hReg (sq 0 (sq 1 sz)) (by kernel_rfl) ?_
  refine asn (v := sv []) rfl rfl rfl ?_
  refine asI rfl rfl rfl ?_
  refine rNil ?_
  refine qSeq rfl ?_
  refine hRet ?_
  exact fun w hs => ⟨[sv [], .int .i64 1], ⟨rfl, ⟨rfl, trivial⟩⟩, ⟨by rw [Math.textAt_1 (by assumption)]; rfl, hs.upd⟩⟩
 ·
  replace c1 : (Math.isTree z) = true := c1
  have hT := Math.isTree_ok c1
  have hd0 : Math.depth z (Int.toNat 0) ≤ 5 := hT.2.2.2.2
  refine hSkip ?_
  refine qSeq rfl ?_
  refine hSeq ?_
  refine hReg (sl 0 (sl 1 (sq 2 (sq 3 sz)))) (by kernel_rfl) ?_
  refine ldAl Tryd.isAgg30 Tryd.sizeOf30 (cBs 0 rfl) trv rfl rfl rfl rfl ?_
  refine callP (v := sv ((Math.text z (0 : Int)))) Tryd.call20 trv rfl rfl (fun w hs => spec_l20Text_c _ nz cz _ _ _ w (Kn.drop (k := 1) kz w hs) (by assumption) (by omega) (by omega)) ?_
  have hslq1 := show (Math.text z (0 : Int)).length ≤ 62500 from Math.text_len (by assumption) ⟨by omega, by omega⟩ (by omega)
  refine asn (v := sv ((Math.text z (0 : Int)))) rfl rfl rfl ?_
  refine asI rfl rfl rfl ?_
  refine rNil ?_
  refine qSeq rfl ?_
  refine hRet ?_
  exact fun w hs => ⟨[sv ((Math.text z (0 : Int))), .int .i64 0], ⟨rfl, ⟨rfl, trivial⟩⟩, ⟨by rw [Math.textAt_0 (by assumption)]; rfl, hs.upd⟩⟩
end Go.Proofs.YtgnfffdenbiipaaDoor
/- The table that a row lists, as the contracts read it. No condition. -/
namespace Go.Proofs.YtgnfffdenbiipaaDoor
open Go Go.RowKit V
theorem tab_of_laid {W : World} {a b : String × DataW Unit} (h : laidMet Tryd.prog [a, b, ("internal/strconv.uint64pow10", Rows.laid_internal_strconv_uint64pow10)] W) : TabP W :=
 Lib.tabIs_of_head (g := 0) (t := 111) (e := 103) (n := 20) (by kernel_rfl) (by kernel_rfl) Tryd.underlying111 Tryd.underlying103 (by kernel_rfl) (by kernel_rfl) (rest := []) (k := .u64) (zs := Lib.pow10Tab) (show laidMet Tryd.prog (("internal/strconv.uint64pow10", Lib.tabData .u64 Lib.pow10Tab) :: []) W from (Go.laidMet.tail (Go.laidMet.tail h)))
end Go.Proofs.YtgnfffdenbiipaaDoor
/- Arguments of laws, opened. No condition. -/
namespace Go.Proofs.YtgnfffdenbiipaaDoor
open Go Go.RowKit V Go.ChangeShapes Go.WideShapes Go.ChangeAt
set_option linter.unusedVariables false
set_option linter.unusedSimpArgs false
set_option maxRecDepth 100000
theorem cells75 : Tryd.prog.cellsOf 75 = 5 := by kernel_rfl
theorem cells2 : Tryd.prog.cellsOf 2 = 1 := by kernel_rfl
theorem cells59 : Tryd.prog.cellsOf 59 = 1 := by kernel_rfl
theorem inT22 {H : Type} {enc : TypeId × Value → H} {W : World} {fuel : Nat} {cs : List Value} {x : DataW H × List MemPlace} (h : trd enc Tryd.prog W fuel 22 cs = some x) : ∃ a n c hs xs, cs = [.slice a n c] ∧ RdR ndK a n hs xs W := in_rows (k := ndK) cells75.symm Tryd.underlying22 h (in_node Tryd.underlying75 rfl Tryd.underlying2 cells2 Tryd.underlying59 cells59 cells75) (by decide) (fun _ _ => rfl)
theorem cells22 : Tryd.prog.cellsOf 22 = 1 := by kernel_rfl
theorem cells24 : Tryd.prog.cellsOf 24 = 1 := by kernel_rfl
theorem inT24 {H : Type} {enc : TypeId × Value → H} {W : World} {fuel : Nat} {cs : List Value} {x : DataW H × List MemPlace} (h : trd enc Tryd.prog W fuel 24 cs = some x) : ∃ au0_0 nu0_0 cu0_0 hu0_0 zu0_0, cs = [.slice au0_0 nu0_0 cu0_0] ∧ RdR ndK au0_0 nu0_0 hu0_0 zu0_0 W := by
 obtain ⟨hl, fu, hf⟩ := in_fields (l := [(22, 0)]) Tryd.underlying24 rfl h
 rw [cells24] at hl
 obtain ⟨c0, rfl⟩ : ∃ c0, cs = [c0] := by
  match cs, hl with
  | [c0], _ => exact ⟨c0, rfl⟩
 obtain ⟨y0, g0⟩ := hf (22, 0) (by simp)
 rw [cells22] at g0
 obtain ⟨au0_0, nu0_0, cu0_0, hu0_0, zu0_0, e0, ru0_0⟩ := inT22 g0
 simp only [List.drop, List.take, List.cons.injEq, and_true] at e0
 obtain rfl := e0
 exact ⟨au0_0, nu0_0, cu0_0, hu0_0, zu0_0, rfl, ru0_0⟩
end Go.Proofs.YtgnfffdenbiipaaDoor
