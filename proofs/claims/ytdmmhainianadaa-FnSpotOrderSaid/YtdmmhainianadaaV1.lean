/- VMQ: a region that draws: all its orders. -/
import Derived.Deep.LoopGhost
import Derived.Carry
import Derived.ChangeArms
import Derived.ChangeShapes
import Derived.WideShapes
import Derived.SizedLaws
import Derived.JoinedOf
import Derived.KernelRfl
import Derived.Test.YtdmmhainianadaaV0
set_option linter.unusedSimpArgs false
set_option linter.unusedVariables false
set_option linter.unnecessarySimpa false
namespace Go.VM
open Go.RowKit

section
variable {X : Fn} {n : Nat} {es : List (List Nat)} {vs : List VOper} {M : List Nat} {T : Nat → Rec} {s0 : Slots}

theorem getD_set {l : Array Bool} {i m : Nat} (hi : i < l.size) : (l.setIfInBounds i true).getD m false = addS (fun m => l.getD m false) i m := by
  unfold addS
  rw [Array.getD_eq_getD_getElem?, Array.getElem?_setIfInBounds]
  by_cases h : i = m
  · subst h; simp [hi]
  · rw [if_neg h, ← Array.getD_eq_getD_getElem?]
    rw [show (m == i) = false by simpa using (fun e => h (Eq.symm e)), Bool.or_false]

theorem draw_any (hT : Tab es vs M) (hF : Fit es vs M T) {ops : Array Oper} (hsz : ops.size = vs.length) (hes : ∀ (i : Nat) (o : Oper), ops[i]? = some o → es.getD i [] = edges o) (hcomp : ∀ (i : Nat) (o : Oper), ops[i]? = some o → ∃ v : VOper, vs[i]? = some v ∧ compOper X.P X.m ops o = some v)
    (hst : ∀ (i : Nat) (v : VOper), vs[i]? = some v → DStep X.P n i v (T i) (T (i + 1)).H) (htx : ∀ i, i ≤ vs.length → SlS vs T s0 (fun j => decide (j < i)) (T i).s) (hn : X.n ≤ n) {Q : Exit → Act → World → Prop}
    (hQ : ∀ C s H a, DInv X n vs T s0 (fun j => decide (j < vs.length)) C s H a → Q .normal a C.w) : ∀ (fuel : Nat) (listed : Array Bool) (C : Cx) (s : Slots) (H : Heap) (a : Act), listed.size = ops.size →
    (∀ i, i < vs.length → listed.getD i false = true → ∀ j ∈ es.getD i [], listed.getD j false = true) →
    ((List.range ops.size).filter fun i => !listed.getD i true).length ≤ fuel → DInv X n vs T s0 (fun i => listed.getD i false) C s H a → wpAny X.P .any ops Q fuel listed a C.w := by
  -- nothing ready: all is done
  have done : ∀ (listed : Array Bool), listed.size = ops.size → Region.ready .any ops listed = [] → ∀ i, i < vs.length → listed.getD i false = true := by
    intro listed hl hr i
    induction i using Nat.strongRecOn with
    | ind i ih =>
      intro hi
      cases hli : listed.getD i false with
      | true => rfl
      | false =>
        exfalso
        have ho : ops[i]? = some (ops[i]) := Array.getElem?_eq_getElem (by omega)
        have : i ∈ Region.ready .any ops listed := by
          unfold Region.ready
          refine List.mem_filter.2 ⟨List.mem_range.2 (by omega), ?_⟩
          have e : listed.getD i true = false := by
            rw [Array.getD_eq_getD_getElem?] at hli ⊢
            rw [Array.getElem?_eq_getElem (by omega)] at hli ⊢
            simpa using hli
          simp only [e, Bool.not_false, Bool.true_and, ho, Option.map_some, Option.getD_some]
          rw [Array.all_eq_true]
          intro q hq
          by_cases hb : Region.binds .any (ops[i]).after[q] = true
          · have hm : ((ops[i]).after[q]).on ∈ edges (ops[i]) := List.mem_map.2 ⟨_, List.mem_filter.2 ⟨by simp, hb⟩, rfl⟩
            rw [← hes i _ ho] at hm
            have hlt := hT.back i hi _ hm
            rw [ih _ hlt (by omega)]
            simp
          · simp [hb]
        rw [hr] at this
        simp at this
  have fin : ∀ (listed : Array Bool) (C : Cx) (s : Slots) (H : Heap) (a : Act), listed.size = ops.size → DInv X n vs T s0 (fun i => listed.getD i false) C s H a → Region.ready .any ops listed = [] → Q .normal a C.w := by
    intro listed C s H a hl hI hr
    have e : (fun i => listed.getD i false) = fun j => decide (j < vs.length) := by
      funext j
      by_cases hj : j < vs.length
      · rw [done listed hl hr j hj]; simp [hj]
      · rw [Array.getD_eq_getD_getElem?, Array.getElem?_eq_none (by omega)]; simp [hj]
    rw [e] at hI
    exact hQ C s H a hI
  intro fuel
  induction fuel with
  | zero =>
    intro listed C s H a hl hcl hfu hI
    have hnil : Region.ready .any ops listed = [] := by
      have h0 : ((List.range ops.size).filter fun i => !listed.getD i true) = [] := List.eq_nil_of_length_eq_zero (by omega)
      rw [List.eq_nil_iff_forall_not_mem]
      intro i hi
      have hi := List.mem_filter.1 hi
      have : i ∈ ((List.range ops.size).filter fun i => !listed.getD i true) := List.mem_filter.2 ⟨hi.1, by
        have := hi.2
        simp only [Bool.and_eq_true] at this
        exact this.1⟩
      rw [h0] at this; simp at this
    exact ⟨hnil, fin listed C s H a hl hI hnil⟩
  | succ fuel ih =>
    intro listed C s H a hl hcl hfu hI
    refine ⟨fin listed C s H a hl hI, fun i hi => ?_⟩
    have hi' := List.mem_filter.1 hi
    have hil : i < ops.size := List.mem_range.1 hi'.1
    have ho : ops[i]? = some ops[i] := Array.getElem?_eq_getElem hil
    have h2 := hi'.2
    simp only [Bool.and_eq_true, ho, Option.map_some, Option.getD_some] at h2
    obtain ⟨h2, h3⟩ := h2
    have hnot : listed.getD i false = false := by
      rw [Array.getD_eq_getD_getElem?] at h2 ⊢
      rw [Array.getElem?_eq_getElem (by omega)] at h2 ⊢
      simpa using h2
    have hready : ∀ j ∈ es.getD i [], listed.getD j false = true := by
      intro j hj
      rw [hes i _ ho] at hj
      obtain ⟨e, he, rfl⟩ := List.mem_map.1 hj
      obtain ⟨he, hb⟩ := List.mem_filter.1 he
      rw [Array.all_eq_true] at h3
      obtain ⟨q, hq, rfl⟩ := Array.getElem_of_mem (Array.mem_toList_iff.1 he)
      have := h3 q hq
      rw [hb] at this
      simpa using this
    obtain ⟨v, hv, hc⟩ := hcomp i _ ho
    refine DInv.step hT hF hst htx hI hn hcl hv hnot hready ho hc fun C' s' H' a' hI' => ?_
    have e : addS (fun m => listed.getD m false) i = fun m => (listed.setIfInBounds i true).getD m false := by
      funext m; exact (getD_set (by omega)).symm
    rw [e] at hI'
    refine ih _ C' s' H' a' (by simp [hl]) ?_ ?_ hI'
    · intro q hq hlq j hj
      rw [getD_set (by omega)] at hlq ⊢
      simp only [addS, Bool.or_eq_true, beq_iff_eq] at hlq ⊢
      rcases hlq with hlq | rfl
      · exact .inl (hcl q hq hlq j hj)
      · exact .inl (hready j hj)
    · -- one less
      have hsub : ((List.range ops.size).filter fun q => !(listed.setIfInBounds i true).getD q true).length < ((List.range ops.size).filter fun q => !listed.getD q true).length := by
        have hd1 : ∀ q, q < ops.size → (listed.setIfInBounds i true).getD q true = (listed.getD q true || q == i) := by
          intro q hq
          rw [Array.getD_eq_getD_getElem?, Array.getElem?_setIfInBounds]
          by_cases h : i = q
          · subst h; simp [hl, hil]
          · rw [if_neg h, ← Array.getD_eq_getD_getElem?]
            rw [show (q == i) = false by simpa using (fun e => h (Eq.symm e)), Bool.or_false]
        have hf : ((List.range ops.size).filter fun q => !(listed.setIfInBounds i true).getD q true) = ((List.range ops.size).filter fun q => !listed.getD q true).filter fun q => !(q == i) := by
          rw [List.filter_filter]
          refine List.filter_congr fun q hq => ?_
          rw [hd1 q (List.mem_range.1 hq)]
          cases listed.getD q true <;> cases (q == i) <;> rfl
        rw [hf]
        refine List.length_filter_lt_length_iff_exists.2 ⟨i, ?_, by simp⟩
        exact List.mem_filter.2 ⟨List.mem_range.2 hil, by simpa using h2⟩
      omega

theorem At.drew {C : Cx} {s : Slots} {H : Heap} {a : Act} (h : At X C s H n a) : At X ⟨C.w.drew, C.ρ, C.F, C.N, C.φ⟩ s H n a := by
  have hf : Fr (Own C H) C.w C.w.drew := fr_drew _ _
  have hL : Le C ⟨C.w.drew, C.ρ, C.F, C.N, C.φ⟩ := ⟨fun _ h => h, fun _ _ => rfl, fun _ _ h1 h2 => ⟨h2, h1⟩, fun _ _ h => h⟩
  have hS := h.stp
  refine ⟨⟨hS.le.trans hL, fr_trans hS.fr hf hS.ow, ⟨hS.hok.nm, hS.hok.own, fun k cs hk => (hS.hok.obj k cs hk).mono hL (fun _ _ => rfl), hS.hok.nodup, hS.hok.sep⟩, hS.bd, hS.nn, hS.nN, hS.nO, hS.mF, hS.nF, hS.ow⟩, h.st.mono hL⟩

theorem draw_wp {ops : Array Oper} {ds : List (VOper × List Nat)} (hc : compDraw X.P X.m ops = some ds) {C : Cx} {s : Slots} {H : Heap} {a : Act} (hA : At X C s H n a) {K : Slots → Heap → Nat → Prop}
    (h : vdr X.P n ds 0 [] (fun s' H' => K s' H' (n + ds.length)) s H) {id : Nat} {Q : Exit → Act → World → Prop} (hK : ∀ C' s' H' n' a', At X C' s' H' n' a' → K s' H' n' → Q .normal a' C'.w) : (Code.region id ops true).wp X.P Q a C.w := by
  unfold compDraw at hc
  split at hc
  · rename_i vs hvs
    simp only at hc
    split at hc
    · rename_i hok
      injection hc with hc; subst hc
      rw [Bool.and_eq_true] at hok
      obtain ⟨hm, hok⟩ := hok
      have hT := Tab.of hok
      obtain ⟨hlen, hget⟩ := compOps_get _ _ hvs
      have hsz : ops.size = vs.length := by simpa using hlen.symm
      obtain ⟨T, h1, h2, h3, h4⟩ := vdr_tr _ _ _ _ _ h
      rw [withInc_length, Nat.zero_add] at h4
      have hst := fun (i : Nat) (v : VOper) (hv : vs[i]? = some v) => h3.step i v _ (by rw [withInc_get, hv]; rfl)
      simp only [Nat.zero_add] at hst
      have hinc := fun (i : Nat) (v : VOper) (hv : vs[i]? = some v) => h3.inc i v _ (by rw [withInc_get, hv]; rfl)
      simp only [Nat.zero_add, Nat.zero_le, true_implies] at hinc
      have htx : ∀ i, i ≤ vs.length → SlS vs T s (fun j => decide (j < i)) (T i).s := SlS.text hT (fun i v hv => (hst i v hv).2) h1
      have hempty : ∀ (i : Nat) (v : VOper), vs[i]? = some v → heapy v.op = false → (T i).rd = [] ∧ (T i).wr = [] := by
        intro i v hv hh
        rcases (hst i v hv).1 with ⟨_, _, _, hr, hw⟩ | ⟨_, f, args, hvo, _, _⟩ | ⟨_, f, args, hvo, _, _, _, _, _⟩ | ⟨_, _, _, hr, hw⟩
        · exact ⟨hr, hw⟩
        · rw [hvo] at hh; simp [heapy] at hh
        · rw [hvo] at hh; simp [heapy] at hh
        · rw [hr, hw]; exact foot_pure hh
      have hF : Fit (ops.toList.map edges) vs (clos [] (ops.toList.map edges)) T := by
        refine ⟨fun i k hi hk => ?_, fun i j k hi hj hne hkj hki => ?_⟩
        · have hv : vs[i]? = some vs[i] := List.getElem?_eq_getElem hi
          rcases (hst i _ hv).1 with ⟨_, _, hH, _, _⟩ | ⟨_, f, args, hvo, hcd, hwr⟩ | ⟨_, f, args, hvo, g, caps, he, hcd, hwr⟩ | ⟨_, _, hvop, hr, hw⟩
          · rw [hH]
          · exact hcd.1 k (hwr ▸ hk)
          · exact hcd.1 k (hwr ▸ hk)
          · exact vop_frame hvop k (hw ▸ hk)
        · -- the pair, in the text's order
          have pair : ∀ p q, p < q → q < vs.length → ¬ Disj (T p).rd (T p).wr (T q).rd (T q).wr → ((clos [] (ops.toList.map edges)).getD q 0).testBit p = true := by
            intro p q hpq hq hnd
            have hvq : vs[q]? = some vs[q] := List.getElem?_eq_getElem hq
            have hvp : vs[p]? = some vs[p] := List.getElem?_eq_getElem (by omega)
            have hhq : heapy vs[q].op = true := by
              cases hh : heapy vs[q].op with
              | true => rfl
              | false => obtain ⟨a1, a2⟩ := hempty q _ hvq hh; rw [a1, a2] at hnd; exact absurd Disj.nil' hnd
            have hhp : heapy vs[p].op = true := by
              cases hh : heapy vs[p].op with
              | true => rfl
              | false => obtain ⟨a1, a2⟩ := hempty p _ hvp hh; rw [a1, a2] at hnd; exact absurd Disj.nil hnd
            cases hb : ((clos [] (ops.toList.map edges)).getD q 0).testBit p with
            | true => rfl
            | false =>
              refine absurd (hinc q _ hvq p hpq ?_) hnd
              rw [incs, hvq]
              simp only [hhq, if_true]
              refine List.mem_filter.2 ⟨List.mem_range.2 hpq, ?_⟩
              rw [hvp]
              simp [hhp]
              simpa using hb
          by_cases hij : i < j
          · refine .inl (pair i j hij hj fun hd => ?_)
            have := hd.2 k hkj
            rcases hki with h | h
            · exact this.1 h
            · exact this.2 h
          · refine .inr (pair j i (by omega) hi fun hd => ?_)
            have := hd.1 k hkj
            rcases hki with h | h
            · exact this.1 h
            · exact this.2 h
      refine wp_region_any hm ?_
      have hes : ∀ (i : Nat) (o : Oper), ops[i]? = some o → (ops.toList.map edges).getD i [] = edges o := by
        intro i o ho
        rw [List.getD_eq_getElem?_getD, List.getElem?_map, Array.getElem?_toList, ho]; rfl
      refine draw_any (X := X) (n := n) (s0 := s) hT hF hsz hes (fun i o ho => hget i o (by rw [Array.getElem?_toList]; exact ho)) (fun i v hv => (hst i v hv).1) htx hA.stp.nn ?_ ops.size (Array.replicate ops.size false) ⟨C.w.drew, C.ρ, C.F, C.N, C.φ⟩ s H a (by simp) ?_ ?_ ?_
      · intro C' s' H' a' hI
        have hsl := htx vs.length (Nat.le_refl _)
        have es : s' = (T vs.length).s := by
          funext d
          by_cases hex : ∃ (j : Nat) (w : VOper), vs[j]? = some w ∧ w.dst = some d
          · obtain ⟨j, w, hw, hwd⟩ := hex
            have hj : j < vs.length := (List.getElem?_eq_some_iff.1 hw).1
            rw [(hI.sl d).1 j w (by simpa using hj) hw hwd, (hsl d).1 j w (by simpa using hj) hw hwd]
          · rw [(hI.sl d).2 fun j w _ hw hwd => hex ⟨j, w, hw, hwd⟩, (hsl d).2 fun j w _ hw hwd => hex ⟨j, w, hw, hwd⟩]
        have eH : H' = (T vs.length).H := by
          funext k
          rw [hI.hp k]
          exact hpS_text (fun i hi hk => hF.frame i k hi hk) vs.length vs.length (Nat.le_refl _) (Nat.le_refl _)
        subst es eH
        exact hK C' _ _ _ a' hI.here h4
      · intro i hi hli
        rw [Array.getD_eq_getD_getElem?, Array.getElem?_replicate] at hli
        split at hli <;> simp at hli
      · refine Nat.le_trans (List.length_filter_le _ _) (by simp)
      · have hB := hA.drew
        refine ⟨⟨⟨hB.stp.le, hB.stp.fr, hB.stp.hok, hB.stp.bd, Nat.le_trans hB.stp.nn (Nat.le_add_right _ _), fun j hj => Nat.lt_of_lt_of_le (hB.stp.nN j hj) (Nat.le_add_right _ _), hB.stp.nO, hB.stp.mF, hB.stp.nF, hB.stp.ow⟩, hB.st⟩, fun j hj => .inl (hA.stp.nN j hj), ?_, ?_⟩
        · intro d
          refine ⟨fun i v hi => ?_, fun _ => rfl⟩
          simp only [Array.getD_eq_getD_getElem?, Array.getElem?_replicate] at hi
          split at hi <;> simp at hi
        · intro k
          rw [hpS_congr (S' := fun j => decide (j < 0)) vs.length (fun j hj _ => by
            simp only [Array.getD_eq_getD_getElem?, Array.getElem?_replicate]
            split <;> simp)]
          rw [hpS_text (fun i hi hk => hF.frame i k hi hk) vs.length 0 (by omega) (Nat.le_refl _), h2]
    · simp at hc
  · simp at hc
end
end Go.VM

/- VMM: code, loops and functions: what is derived of the machine's code holds of the model's. -/
namespace Go.VM
open Go.RowKit

def compReg (P : Program) (m : Nat) (ops : Array Oper) : Bool → Option VCode
  | false => (compOps P m ops ops.toList).map .reg
  | true => (compDraw P m ops).map .drw
def compCode (P : Program) (m : Nat) : Code → Option VCode
  | .skip => some .skip
  | .region _ ops d => compReg P m ops d
  | .seq a b => match compCode P m a, compCode P m b with
    | some x, some y => some (.seq x y)
    | _, _ => none
  | .cond c a b => match compCode P m a, compCode P m b with
    | some x, some y => some (.cond c x y)
    | _, _ => none
  | .block id b => (compCode P m b).map (.block id)
  | .loop b => (compCode P m b).map .loop
  | .exit id => some (.exit id)
  | .ret => some .ret
  | _ => none

/-- What holds of the model's code. -/
def SW (X : Fn) (c : Code) (Q : VPost) (s : Slots) (H : Heap) (n : Nat) : Prop := ∀ C a, At X C s H n a → c.wp X.P (MPost X Q) a C.w
def SWv (X : Fn) (vc : VCode) (Q : VPost) (s : Slots) (H : Heap) (n : Nat) : Prop := ∀ c, compCode X.P X.m c = some vc → SW X c Q s H n

def thenV (next : Slots → Heap → Nat → Prop) (Q : VPost) : VPost
  | .normal => next
  | x => Q x
def blockV (id : Nat) (Q : VPost) : VPost
  | .exit j => if j = id then Q .normal else Q (.exit j)
  | x => Q x
def vwp (X : Fn) : VCode → VPost → Slots → Heap → Nat → Prop
  | .skip, Q => Q .normal
  | .reg ops, Q => vops X.P ops (Q .normal)
  | .drw ops, Q => fun s H n => vdr X.P n ops 0 [] (fun s' H' => Q .normal s' H' (n + ops.length)) s H
  | .seq a b, Q => vwp X a (thenV (vwp X b Q) Q)
  | .cond c a b, Q => fun s H n => match s.ev c with
    | .sc (.bool t) => if t = true then vwp X a Q s H n else vwp X b Q s H n
    | _ => False
  | .block id b, Q => vwp X b (blockV id Q)
  | .loop b, Q => SWv X (.loop b) Q
  | .exit id, Q => Q (.exit id)
  | .ret, Q => Q .ret

section
variable {X : Fn}
theorem map_idx (ops : Array Oper) : (List.range ops.size).map (ops[·]?) = ops.toList.map some := by
  apply List.ext_getElem?
  intro i
  by_cases hi : i < ops.size
  · simp [hi]
  · simp [hi]

theorem vwp_ok : ∀ (vc : VCode) {Q : VPost} {s : Slots} {H : Heap} {n : Nat}, vwp X vc Q s H n → SWv X vc Q s H n
  | .skip, Q, s, H, n, h, c, hc => by
    intro C a hA
    cases c <;> simp only [compCode] at hc <;> try (first | (simp at hc; done) | (split at hc <;> simp at hc; done) | (rename_i d; cases d <;> simp only [compReg] at hc <;> (obtain ⟨_, _, hc⟩ := Option.map_eq_some_iff.1 hc; simp at hc; done)))
    · exact wp_skip ⟨C, s, H, n, .normal, rfl, hA, rfl, h⟩
  | .reg ops, Q, s, H, n, h, c, hc => by
    intro C a hA
    cases c <;> simp only [compCode] at hc <;> try (first | (simp at hc; done) | (split at hc <;> simp at hc; done) | (rename_i d; cases d <;> simp only [compReg] at hc <;> (obtain ⟨_, _, hc⟩ := Option.map_eq_some_iff.1 hc; simp at hc; done)))
    rename_i id os d
    cases d <;> simp only [compReg] at hc
    · obtain ⟨vs, hvs, hcc⟩ := Option.map_eq_some_iff.1 hc
      injection hcc with h1; subst h1
      refine wp_region (vops_ok os.toList _ _ hvs (map_idx os) hA h fun C' s' H' n' a' hA' hK => ⟨C', s', H', n', .normal, rfl, hA', rfl, hK⟩)
    · simp at hc
  | .drw ops, Q, s, H, n, h, c, hc => by
    intro C a hA
    cases c <;> simp only [compCode] at hc <;> try (first | (simp at hc; done) | (split at hc <;> simp at hc; done) | (rename_i d; cases d <;> simp only [compReg] at hc <;> (obtain ⟨_, _, hc⟩ := Option.map_eq_some_iff.1 hc; simp at hc; done)))
    rename_i id os d
    cases d <;> simp only [compReg] at hc
    · simp at hc
    · obtain ⟨vs, hvs, hcc⟩ := Option.map_eq_some_iff.1 hc
      injection hcc with h1; subst h1
      exact draw_wp hvs hA h fun C' s' H' n' a' hA' hK => ⟨C', s', H', n', .normal, rfl, hA', rfl, hK⟩
  | .seq x y, Q, s, H, n, h, c, hc => by
    intro C a hA
    cases c <;> simp only [compCode] at hc <;> try (first | (simp at hc; done) | (split at hc <;> simp at hc; done) | (rename_i d; cases d <;> simp only [compReg] at hc <;> (obtain ⟨_, _, hc⟩ := Option.map_eq_some_iff.1 hc; simp at hc; done)))
    rename_i c1 c2
    split at hc
    · rename_i v1 v2 h1 h2
      injection hc with hc; injection hc with e1 e2; subst e1 e2
      refine wp_seq (wp_mono (vwp_ok v1 h c1 h1 C a hA) ?_)
      rintro e a' w' ⟨C', s', H', n', v, rfl, hA', hv, hQ⟩
      cases e with
      | normal =>
        simp only [VExit.of] at hv; injection hv with hv; subst hv
        exact vwp_ok v2 hQ c2 h2 C' a' hA'
      | exit id => simp only [VExit.of] at hv; injection hv with hv; subst hv; exact ⟨C', s', H', n', .exit id, rfl, hA', rfl, hQ⟩
      | ret => simp only [VExit.of] at hv; injection hv with hv; subst hv; exact ⟨C', s', H', n', .ret, rfl, hA', rfl, hQ⟩
      | _ => simp [VExit.of] at hv
    · simp at hc
  | .cond x p q, Q, s, H, n, h, c, hc => by
    intro C a hA
    cases c <;> simp only [compCode] at hc <;> try (first | (simp at hc; done) | (split at hc <;> simp at hc; done) | (rename_i d; cases d <;> simp only [compReg] at hc <;> (obtain ⟨_, _, hc⟩ := Option.map_eq_some_iff.1 hc; simp at hc; done)))
    rename_i x0 c1 c2
    split at hc
    · rename_i v1 v2 h1 h2
      injection hc with hc; injection hc with e0 e1 e2; subst e0 e1 e2
      simp only [vwp] at h
      have hx := hA.st.ev x0
      split at h
      · rename_i t hs
        rw [hs] at hx; simp only [Rep] at hx
        refine wp_cond hx ?_
        cases t with
        | true => simp only [if_true] at h ⊢; exact vwp_ok v1 h c1 h1 C a hA
        | false => simp only [Bool.false_eq_true, if_false] at h ⊢; exact vwp_ok v2 h c2 h2 C a hA
      · exact h.elim
    · simp at hc
  | .block id b, Q, s, H, n, h, c, hc => by
    intro C a hA
    cases c <;> simp only [compCode] at hc <;> try (first | (simp at hc; done) | (split at hc <;> simp at hc; done) | (rename_i d; cases d <;> simp only [compReg] at hc <;> (obtain ⟨_, _, hc⟩ := Option.map_eq_some_iff.1 hc; simp at hc; done)))
    · rename_i id' c1
      obtain ⟨v1, h1, hcc⟩ := Option.map_eq_some_iff.1 hc
      injection hcc with e0 e1; subst e0 e1
      refine wp_block (wp_mono (vwp_ok v1 h c1 h1 C a hA) ?_)
      rintro e a' w' ⟨C', s', H', n', v, rfl, hA', hv, hQ⟩
      cases e with
      | normal => simp only [VExit.of] at hv; injection hv with hv; subst hv; exact ⟨C', s', H', n', .normal, rfl, hA', rfl, hQ⟩
      | exit j =>
        simp only [VExit.of] at hv; injection hv with hv; subst hv
        simp only [Exit.inBlock]
        simp only [blockV] at hQ
        by_cases hj : j = id'
        · rw [if_pos hj] at hQ ⊢; exact ⟨C', s', H', n', .normal, rfl, hA', rfl, hQ⟩
        · rw [if_neg hj] at hQ ⊢; exact ⟨C', s', H', n', .exit j, rfl, hA', rfl, hQ⟩
      | ret => simp only [VExit.of] at hv; injection hv with hv; subst hv; exact ⟨C', s', H', n', .ret, rfl, hA', rfl, hQ⟩
      | _ => simp [VExit.of] at hv
  | .loop b, Q, s, H, n, h, c, hc => h c hc
  | .exit id, Q, s, H, n, h, c, hc => by
    intro C a hA
    cases c <;> simp only [compCode] at hc <;> try (first | (simp at hc; done) | (split at hc <;> simp at hc; done) | (rename_i d; cases d <;> simp only [compReg] at hc <;> (obtain ⟨_, _, hc⟩ := Option.map_eq_some_iff.1 hc; simp at hc; done)))
    · injection hc with hc; injection hc with hc; subst hc
      exact wp_exit ⟨C, s, H, n, .exit _, rfl, hA, rfl, h⟩
  | .ret, Q, s, H, n, h, c, hc => by
    intro C a hA
    cases c <;> simp only [compCode] at hc <;> try (first | (simp at hc; done) | (split at hc <;> simp at hc; done) | (rename_i d; cases d <;> simp only [compReg] at hc <;> (obtain ⟨_, _, hc⟩ := Option.map_eq_some_iff.1 hc; simp at hc; done)))
    · exact wp_ret ⟨C, s, H, n, .ret, rfl, hA, rfl, h⟩

theorem SWv.seq {x y : VCode} {Q : VPost} {s : Slots} {H : Heap} {n : Nat} (h : SWv X x (thenV (SWv X y Q) Q) s H n) : SWv X (.seq x y) Q s H n := by
  intro c hc C a hA
  cases c <;> simp only [compCode] at hc <;> try (first | (simp at hc; done) | (split at hc <;> simp at hc; done) | (rename_i d; cases d <;> simp only [compReg] at hc <;> (obtain ⟨_, _, hc⟩ := Option.map_eq_some_iff.1 hc; simp at hc; done)))
  rename_i c1 c2
  split at hc
  · rename_i v1 v2 h1 h2
    injection hc with hc; injection hc with e1 e2; subst e1 e2
    refine wp_seq (wp_mono (h c1 h1 C a hA) ?_)
    rintro e a' w' ⟨C', s', H', n', v, rfl, hA', hv, hQ⟩
    cases e with
    | normal =>
      simp only [VExit.of] at hv; injection hv with hv; subst hv
      exact hQ c2 h2 C' a' hA'
    | exit id => simp only [VExit.of] at hv; injection hv with hv; subst hv; exact ⟨C', s', H', n', .exit id, rfl, hA', rfl, hQ⟩
    | ret => simp only [VExit.of] at hv; injection hv with hv; subst hv; exact ⟨C', s', H', n', .ret, rfl, hA', rfl, hQ⟩
    | _ => simp [VExit.of] at hv
  · simp at hc

/-- What lies above the slots is nothing. -/
def Low (m : Nat) (s : Slots) : Prop := ∀ j, m ≤ j → s j = .any ∨ s j = .sc undef

/-- Less may be known. -/
theorem SWv.cov (hX : XOk X) {vc : VCode} {Q : VPost} {s s' : Slots} {H H' : Heap} {n n' : Nat} {τ : Nat → Nat} (D : Nat → Prop) (hc : Cov X τ s H n s' H' n' D) (hl : Low X.m s') (h : SWv X vc Q s' H' n') : SWv X vc Q s H n :=
  fun c hcc _ a hA => h c hcc (covC _ _ H D n') a (Cov.at hX hA hc hl)

/-- Seen otherwise. -/
theorem SWv.vw {R : VV → VV → Prop} {vc : VCode} {Q : VPost} {s s' : Slots} {H H' : Heap} {n n' : Nat} (hv : Vw X R H n H' n') (hs : ∀ j, R (s j) (s' j)) (hl : Low X.m s') (h : SWv X vc Q s' H' n') : SWv X vc Q s H n :=
  fun c hcc C a hA => by
    obtain ⟨C', e, hA'⟩ := hv.at hs hl hA
    rw [← e]
    exact h c hcc C' a hA'
theorem SWv.seen (hX : XOk X) {vc : VCode} {Q : VPost} {s : Slots} {H H' : Heap} {n n' : Nat} (hv : Vw X Eq H n H' n') (h : SWv X vc Q s H' n') : SWv X vc Q s H n :=
  fun c hcc C a hA => by
    obtain ⟨C', e, hA'⟩ := hv.at (s' := s) (fun _ => rfl) hA.st.out hA
    rw [← e]
    exact h c hcc C' a hA'
/-- A loop: what holds at its head, with a number that goes down. -/
theorem SWv.loop (hX : XOk X) {b : VCode} {Q : VPost} (I : Nat → Slots → Heap → Nat → Prop)
    (round : ∀ μ s H n, I μ s H n → SWv X b (thenV (fun s' H' n' => ∃ R s'' H'' n'' μ', Vw X R H' n' H'' n'' ∧ (∀ j, R (s' j) (s'' j)) ∧ Low X.m s'' ∧ μ' < μ ∧ I μ' s'' H'' n'') Q) s H n)
    {s s0 : Slots} {H H0 : Heap} {n n0 μ0 : Nat} {R : VV → VV → Prop} (hc : Vw X R H n H0 n0) (hs : ∀ j, R (s j) (s0 j)) (hl : Low X.m s0) (h0 : I μ0 s0 H0 n0) : SWv X (.loop b) Q s H n := by
  intro c hcc C a hA
  cases c <;> simp only [compCode] at hcc <;> try (first | (simp at hcc; done) | (split at hcc <;> simp at hcc; done) | (rename_i d; cases d <;> simp only [compReg] at hcc <;> (obtain ⟨_, _, hcc⟩ := Option.map_eq_some_iff.1 hcc; simp at hcc; done)))
  rename_i c1
  obtain ⟨v1, h1, hcc⟩ := Option.map_eq_some_iff.1 hcc
  injection hcc with e1; subst e1
  obtain ⟨C0, e0, hA0⟩ := hc.at hs hl hA
  rw [← e0]
  refine wp_loop_ghost (fun μ a w => ∃ C s H n, C.w = w ∧ At X C s H n a ∧ I μ s H n) μ0 ⟨C0, s0, H0, n0, rfl, hA0, h0⟩ ?_
  rintro μ a w ⟨C, s, H, n, rfl, hA, hI⟩
  refine wp_mono (round μ s H n hI c1 h1 C a hA) ?_
  rintro e a' w' ⟨C', s', H', n', v, rfl, hA', hv, hQ⟩
  cases e with
  | normal =>
    simp only [VExit.of] at hv; injection hv with hv; subst hv
    obtain ⟨R', s'', H'', n'', μ', hc, hs, hl, hlt, hI'⟩ := hQ
    obtain ⟨C'', e'', hA''⟩ := hc.at hs hl hA'
    exact ⟨μ', hlt, C'', s'', H'', n'', e'', hA'', hI'⟩
  | exit id => simp only [VExit.of] at hv; injection hv with hv; subst hv; exact ⟨C', s', H', n', .exit id, rfl, hA', rfl, hQ⟩
  | ret => simp only [VExit.of] at hv; injection hv with hv; subst hv; exact ⟨C', s', H', n', .ret, rfl, hA', rfl, hQ⟩
  | _ => simp [VExit.of] at hv
end

/-! ### Functions -/
inductive VRes where
  | t (d : Nat)
  | c (d : Nat) (ag : Bool) (n : Nat)
def compRes (P : Program) (m : Nat) : List ResultVar → Option (List VRes)
  | [] => some []
  | .tmp d :: r => if d < m then (compRes P m r).map (.t d :: ·) else none
  | .cell d t :: r => if d < m then match P.underlying t, sizeT P t with
    | some k, some n => (compRes P m r).map (.c d k.isRow n :: ·)
    | _, _ => none
    else none
def resV (s : Slots) (H : Heap) : List VRes → Option (List VV)
  | [] => some []
  | .t d :: r => (resV s H r).map (s d :: ·)
  | .c d ag n :: r => match s d with
    | .pt k off => match H k with
      | some cs => match rdV ag n (cs.drop off) with
        | some v => (resV s H r).map (v :: ·)
        | none => none
      | none => none
    | _ => none
def oneV : List VV → VV
  | [x] => x
  | l => .tup l
def initS (args : List VV) : Slots := fun j => (args[j]?).getD (.sc undef)
/-- A function's end: its results, and what is left of its objects. -/
def FPost (X : Fn) (rs : List VRes) (K : VV → Heap → Nat → Prop) : VPost := fun x s H n =>
  (x = .normal ∨ x = .ret) ∧ ∃ l, resV s H rs = some l ∧ ∃ r' H' n' R, Vw X R H n H' n' ∧ R (oneV l) r' ∧ K r' H' n'

section
variable {P : Program}
def resOne (tmps : Array Value) : ResultVar → Sem Value
  | .tmp t => pure (tmps.getD t undef)
  | .cell a t => do loadVar t (← asAddr (tmps.getD a undef))
theorem results_eq (fn : Func) (tmps : Array Value) : results fn tmps = (do let vs ← fn.results.mapM (resOne tmps); pure (if h : vs.size = 1 then vs[0] else .tuple vs)) := by
  unfold results
  rfl
theorem res_ok {m : Nat} : ∀ {rs : List ResultVar} {vs : List VRes} {C : Cx} {s : Slots} {H : Heap} {a : Act} {l : List VV}, compRes P m rs = some vs → resV s H vs = some l → St m C s a → HOk C H →
    ∃ us, RepL C l us ∧ (rs.mapM (resOne a.tmps)).run P C.w = .ok us C.w
  | [], vs, C, s, H, a, l, hc, hl, hS, hH => by
    simp only [compRes] at hc; injection hc with hc; subst hc
    simp only [resV] at hl; injection hl with hl; subst hl
    exact ⟨[], RepL.nil, by simp⟩
  | .tmp d :: rs, vs, C, s, H, a, l, hc, hl, hS, hH => by
    simp only [compRes] at hc
    split at hc
    · rename_i hd
      obtain ⟨vs', hv, rfl⟩ := Option.map_eq_some_iff.1 hc
      simp only [resV] at hl
      obtain ⟨l', hl', rfl⟩ := Option.map_eq_some_iff.1 hl
      obtain ⟨us, h1, h2⟩ := res_ok hv hl' hS hH
      exact ⟨_ :: us, RepL.cons (hS.slots d hd) h1, by simp [List.mapM_cons, resOne, h2]⟩
    · simp at hc
  | .cell d t :: rs, vs, C, s, H, a, l, hc, hl, hS, hH => by
    simp only [compRes] at hc
    split at hc
    · rename_i hd
      split at hc
      · rename_i k n hu hn
        obtain ⟨vs', hv, rfl⟩ := Option.map_eq_some_iff.1 hc
        simp only [resV] at hl
        have hr := hS.slots d hd
        split at hl
        · rename_i j off hs
          rw [hs] at hr; simp only [Rep] at hr
          split at hl
          · rename_i cs hj
            split at hl
            · rename_i v hrd
              obtain ⟨l', hl', rfl⟩ := Option.map_eq_some_iff.1 hl
              obtain ⟨us, h1, h2⟩ := res_ok hv hl' hS hH
              obtain ⟨ws, q1, _, q2⟩ := obj_cells (hH.obj j cs hj) off
              obtain ⟨g1, g2⟩ := rdV_cells hrd q1
              obtain ⟨p1, p2⟩ := loadVar_ok (P := P) hu hn q2
              cases hrow : k.isRow with
              | true =>
                obtain ⟨hle, hrep⟩ := g1 hrow
                exact ⟨_ :: us, RepL.cons hrep h1, by simp [List.mapM_cons, resOne, hr.1, asAddr, p1 hrow hle, h2]⟩
              | false =>
                obtain ⟨u, hu0, hrep⟩ := g2 hrow
                exact ⟨_ :: us, RepL.cons hrep h1, by simp [List.mapM_cons, resOne, hr.1, asAddr, p2 hrow u hu0, h2]⟩
            · simp at hl
          · simp at hl
        · simp at hl
      · simp at hc
    · simp at hc
theorem results_ok {m : Nat} {fn : Func} {vs : List VRes} {C : Cx} {s : Slots} {H : Heap} {a : Act} {l : List VV} (hc : compRes P m fn.results.toList = some vs) (hl : resV s H vs = some l) (hS : St m C s a) (hH : HOk C H) :
    ∃ u, Rep C (oneV l) u ∧ (results fn a.tmps).run P C.w = .ok u C.w := by
  obtain ⟨us, h1, h2⟩ := res_ok hc hl hS hH
  have hrun : (fn.results.mapM (resOne a.tmps)).run P C.w = .ok us.toArray C.w := by
    rw [Array.mapM_eq_mapM_toList]
    simp [h2]
  refine ⟨(if h : us.toArray.size = 1 then us.toArray[0] else .tuple us.toArray), ?_, by rw [results_eq, Sem.run_bind, hrun]; simp⟩
  have hlen := h1.length
  unfold oneV
  split
  · rename_i x
    simp only [RepL] at h1
    obtain ⟨v, vs', rfl, hx, rfl⟩ := h1
    simpa using hx
  · rename_i hne
    have : ¬ us.toArray.size = 1 := by
      intro h
      simp only [List.size_toArray] at h
      rw [h] at hlen
      match l, hlen with
      | [x], _ => exact hne x rfl
    rw [dif_neg this]
    simp only [Rep]
    exact ⟨us, rfl, h1⟩

/-- A FUNCTION's CONTRACT OUT OF ITS BODY. -/
theorem satF_of {f : FuncId} {fn : Func} {c : Code} {vc : VCode} {rs : List VRes} (hf : P.funcs[f]? = some fn) (hb : fn.body = some c) (hnm : fn.name ≠ "runtime.NumGoroutine")
    (hc : compCode P fn.ntmps c = some vc) (hr : compRes P fn.ntmps fn.results.toList = some rs) {S : FS}
    (hS : ∀ args H n K, S args H n K → args.length ≤ fn.ntmps ∧ ∀ C, let X : Fn := ⟨P, fn.ntmps, C, H, n⟩; XOk X → SWv X vc (FPost X rs K) (initS args) H n) : SatF P f S := by
  refine ⟨⟨fn, hf, by rw [hb]; rfl, hnm⟩, fun args H n K hSp C vs hH hB hN hrep => ?_⟩
  obtain ⟨hlen, hbody⟩ := hS args H n K hSp
  have hX : XOk ⟨P, fn.ntmps, C, H, n⟩ := ⟨hH, hB, hN⟩
  have hvl := hrep.length
  refine calls_of_wp hf hb ?_
  have hA : At ⟨P, fn.ntmps, C, H, n⟩ C (initS args) H n { tmps := vs.toArray ++ Array.replicate (fn.ntmps - vs.toArray.size) undef, defers := [] } := by
    refine ⟨StpM.refl hH hB hN, ⟨fun j hj => ?_, fun j hj => ?_, ?_, rfl⟩⟩
    · show Rep C ((args[j]?).getD (.sc undef)) _
      cases ha : args[j]? with
      | none =>
        have hj' : vs.length ≤ j := by rw [hvl]; exact List.getElem?_eq_none_iff.1 ha
        simp only [Option.getD_none, Rep]
        rw [Array.getD_eq_getD_getElem?, Array.getElem?_append_right (by simpa using hj'), Array.getElem?_replicate]
        split <;> rfl
      | some x =>
        obtain ⟨v, hv, hx⟩ := (RepL.iff.1 hrep).2 j x ha
        have hj' : j < vs.length := (List.getElem?_eq_some_iff.1 hv).1
        simp only [Option.getD_some]
        rw [Array.getD_eq_getD_getElem?, Array.getElem?_append_left (by simpa using hj'), List.getElem?_toArray, hv]
        exact hx
    · right
      show (args[j]?).getD (.sc undef) = _
      rw [List.getElem?_eq_none (by have : fn.ntmps ≤ j := hj; omega)]; rfl
    · simp; omega
  refine wp_mono (hbody C hX c hc C _ hA) ?_
  rintro e a' w' ⟨C', s', H', n', v, rfl, hA', hv, hx, l, hl, r', H'', n'', R, hvw, hR, hK⟩
  obtain ⟨u, hu, hrun⟩ := results_ok hr hl hA'.st hA'.stp.hok
  obtain ⟨C'', e'', hstp, hrep⟩ := hvw C' hA'.stp
  have fin : ∃ v, (results fn a'.tmps).run P C'.w = .ok v C'.w ∧ ∃ r H1 n1 C1 u, K r H1 n1 ∧ Ending.returned v = .returned u ∧ C1.w = C'.w ∧ Rep C1 r u ∧ StpM C C1 H H1 n n1 :=
    ⟨u, hrun, r', H'', n'', C'', u, hK, rfl, e'', hrep _ _ _ hR hu, hstp⟩
  rcases hx with rfl | rfl
  · cases e <;> simp [VExit.of] at hv
    exact ⟨hA'.st.defers, fin⟩
  · cases e <;> simp [VExit.of] at hv
    exact ⟨hA'.st.defers, fin⟩
end
end Go.VM

/- VMR: functions that only compute: their contracts, and small helps. -/
namespace Go.VM
open Go.RowKit

def H0 : Heap := fun _ => none
def slotsOf : List (Nat × VV) → Slots
  | [], _ => .any
  | (i, v) :: r, j => if j = i then v else slotsOf r j
def heapOf : List (Nat × List VV) → Heap
  | [], _ => none
  | (i, v) :: r, j => if j = i then some v else heapOf r j
theorem slotsOf_all {p : Nat → VV → Prop} (h0 : ∀ j, p j .any) : ∀ (l : List (Nat × VV)), (∀ e ∈ l, p e.1 e.2) → ∀ j, p j (slotsOf l j)
  | [], _, j => h0 j
  | (i, v) :: r, h, j => by
    unfold slotsOf
    split
    · rename_i e; subst e; exact h (j, v) (by simp)
    · exact slotsOf_all h0 r (fun e he => h e (by simp [he])) j
theorem slotsOf_low {m : Nat} (l : List (Nat × VV)) (h : ∀ e ∈ l, e.1 < m) : Low m (slotsOf l) := by
  intro j hj
  induction l with
  | nil => left; rfl
  | cons e l ih =>
    obtain ⟨i, v⟩ := e
    have hi := h (i, v) (by simp)
    unfold slotsOf
    rw [if_neg (by simp only at hi; omega)]
    exact ih fun e he => h e (by simp [he])

/-- A function that only computes, called with args, answers r. -/
def PureC (P : Program) (f : FuncId) (args : List VV) (r : VV) : Prop := ∃ S, SatF P f S ∧ ∀ H n K, K r H n → S args H n K
theorem CallP.pure {P : Program} {f : FuncId} {args : List VV} {r : VV} {H : Heap} {n : Nat} {K : VV → Heap → Nat → Prop} (h : PureC P f args r) (hK : K r H n) : CallP P f args H n K :=
  let ⟨S, h1, h2⟩ := h; ⟨S, h1, h2 H n K hK⟩
theorem CallD.pure {P : Program} {f : FuncId} {args : List VV} {r : VV} {H : Heap} {m : Nat} (h : PureC P f args r) : CallD P f args H m [] r H :=
  ⟨fun _ _ => rfl, .inl fun _ _ _ => CallP.pure h ⟨rfl, rfl, fun _ => by simp⟩⟩

/-- The end of a function that only computes: its results, all laid down. -/
def PPost (rs : List VRes) (r : VV) : VPost := fun x s H _ => (x = .normal ∨ x = .ret) ∧ ∃ l, resV s H rs = some l ∧ Conv id H (fun _ => True) 0 (oneV l) r

/-- A function, compiled. -/
def compFn (P : Program) (f : FuncId) : Option (Nat × VCode × List VRes) :=
  match P.funcs[f]? with
  | some fn => if fn.name = "runtime.NumGoroutine" then none else match fn.body with
    | some c => match compCode P fn.ntmps c, compRes P fn.ntmps fn.results.toList with
      | some vc, some rs => some (fn.ntmps, vc, rs)
      | _, _ => none
    | none => none
  | none => none
theorem compFn_of {P : Program} {f : FuncId} {m : Nat} {vc : VCode} {rs : List VRes} (h : compFn P f = some (m, vc, rs)) :
    ∃ fn c, P.funcs[f]? = some fn ∧ fn.body = some c ∧ fn.name ≠ "runtime.NumGoroutine" ∧ fn.ntmps = m ∧ compCode P m c = some vc ∧ compRes P m fn.results.toList = some rs := by
  unfold compFn at h
  split at h
  · rename_i fn hf
    split at h
    · simp at h
    · rename_i hnm
      split at h
      · rename_i c hb
        split at h
        · rename_i v r hv hr
          simp only [Option.some.injEq, Prod.mk.injEq] at h
          obtain ⟨rfl, rfl, rfl⟩ := h
          exact ⟨fn, c, hf, hb, hnm, rfl, hv, hr⟩
        · simp at h
      · simp at h
  · simp at h
theorem hok0 (C : Cx) : HOk C H0 := ⟨fun k cs h => by simp [H0] at h, fun k h => absurd rfl h, fun k cs h => by simp [H0] at h, fun k h => absurd rfl h, fun i j h => absurd rfl h⟩
theorem own0 {C : Cx} {b : Nat} (h : Own C H0 b) : False := by obtain ⟨k, hk, _⟩ := h; exact absurd rfl hk
/-- Behind a call that was made with no objects of ours. -/
theorem fr_out {C0 C' : Cx} {H' : Heap} {n n' : Nat} (hs : StpM C0 C' H0 H' n n') : Fr (fun _ => False) C0.w C'.w := hs.fr.mono fun _ _ h => (own0 h).elim
theorem le_out {C C0 C' : Cx} {H' : Heap} {n n' : Nat} (hB : Bd C) (hs : StpM C0 C' H0 H' n n') (hw : C0.w = C.w) (hF : C0.F = C.F) : Le C'.cl ⟨C'.w, C.ρ, C.F, C.N, C.φ⟩ :=
  ⟨fun _ h => h.elim, fun _ h => h.elim, fun a u h1 h2 => ⟨h2, fun x => h1 ((hs.mF _ (by rw [hw]; exact hB _ x) (by rw [hF]; exact x)).elim (fun g => g) (fun g => (own0 g).elim))⟩, fun _ _ h => h⟩
theorem stp_out {C C0 C' : Cx} {H H' : Heap} {n m m' : Nat} (hH : HOk C H) (hB : Bd C) (hN : ∀ j, C.N j → j < n) (hs : StpM C0 C' H0 H' m m') (hw : C0.w = C.w) (hF : C0.F = C.F) : StpM C ⟨C'.w, C.ρ, C.F, C.N, C.φ⟩ H H n n := by
  have hfr : Fr (fun _ => False) C.w C'.w := hw ▸ fr_out hs
  have hL : Le C ⟨C'.w, C.ρ, C.F, C.N, C.φ⟩ := Le.of_fr (hfr.mono fun _ _ h => h.elim) (fun _ h => h) (fun _ _ => rfl) (fun _ _ h => h)
  exact ⟨hL, hfr.mono fun _ _ h => h.elim, ⟨hH.nm, hH.own, fun k cs hk => (hH.obj k cs hk).mono hL (fun q hq => hfr.block q (hB q (hH.own k (by rw [hk]; simp) q hq)) (fun h => h)), hH.nodup, hH.sep⟩,
    fun b hb => Nat.lt_of_lt_of_le (hB b hb) hfr.size, Nat.le_refl _, hN, fun _ h => .inl h, fun _ _ h => .inl h, fun _ h => .inl h, fun b hb => .inl hb⟩
theorem pureC_of {P : Program} {f : FuncId} {vc : VCode} {rs : List VRes} {args : List VV} {r : VV} {m : Nat} (hcomp : compFn P f = some (m, vc, rs)) (hcl : VV.cloL args = true) (hrc : r.clo = true) (hlen : args.length ≤ m)
    (h : ∀ X : Fn, X.P = P → X.m = m → X.H = H0 → X.n = 0 → XOk X → SWv X vc (PPost rs r) (initS args) H0 0) : PureC P f args r := by
  obtain ⟨fn, c, hf, hb, hnm, hm, hc, hr⟩ := compFn_of hcomp
  subst hm
  -- with an empty heap
  have key : SatF P f (fun as H n K => as = args ∧ H = H0 ∧ n = 0 ∧ ∀ H' n', K r H' n') := by
    refine satF_of hf hb hnm hc hr fun as H n K hS => ?_
    obtain ⟨rfl, rfl, rfl, hK⟩ := hS
    refine ⟨hlen, fun C hX => ?_⟩
    have hw := h ⟨P, fn.ntmps, C, H0, 0⟩ rfl rfl rfl rfl hX
    intro c' hc' C' a' hA'
    refine wp_mono (hw c' hc' C' a' hA') ?_
    rintro e a'' w' ⟨C'', s', H', n', v, hw', hA'', hv, hx, l, hl, hconv⟩
    have hcov : Cov ⟨P, fn.ntmps, C, H0, 0⟩ id (fun _ => .any) H' n' (fun _ => .any) H0 0 (fun _ => True) :=
      ⟨fun _ => .any _, fun k cs' hk => by simp [H0] at hk, Nat.le_refl _, fun _ _ => rfl, fun i j hi => absurd rfl hi⟩
    exact ⟨C'', s', H', n', v, hw', hA'', hv, hx, l, hl, r, H0, 0, _, hcov.vw hX, hconv, hK _ _⟩
  refine ⟨fun as H n K => as = args ∧ K r H n, ⟨key.fn, ?_⟩, fun H n K hK => ⟨rfl, hK⟩⟩
  rintro as H n K ⟨rfl, hK⟩ C vs hH hB hN hrep
  let C0 : Cx := ⟨C.w, C.ρ, C.F, fun _ => False, C.φ⟩
  have hrep0 : RepL C0 as vs := RepL.cl as hrep hcl
  refine (key.calls as H0 0 (fun r' _ _ => r' = r) ⟨rfl, rfl, rfl, fun _ _ => rfl⟩ C0 vs (hok0 C0) hB (fun j h => h.elim) hrep0).mono ?_
  rintro e w' ⟨r', H', n', C', v, rfl, rfl, rfl, hrv, hs⟩
  exact ⟨r', H, n, ⟨C'.w, C.ρ, C.F, C.N, C.φ⟩, v, hK, rfl, rfl, (Rep.cl _ hrv hrc).mono (le_out hB hs rfl rfl), stp_out hH hB hN hs rfl rfl⟩

/-! ### A call that looks at objects of ours, and answers a plain value -/
def ConvL (H : Heap) (D : Nat → Prop) : List VV → List VV → Prop
  | [], [] => True
  | x :: xs, y :: ys => Conv id H D 0 x y ∧ ConvL H D xs ys
  | _, _ => False
theorem ConvL.iff {H : Heap} {D : Nat → Prop} : ∀ {xs ys : List VV}, ConvL H D xs ys → xs.length = ys.length ∧ ∀ (j : Nat) (x y : VV), xs[j]? = some x → ys[j]? = some y → Conv id H D 0 x y
  | [], [], _ => ⟨rfl, fun j x y h => by simp at h⟩
  | x :: xs, y :: ys, h => by
    simp only [ConvL] at h
    obtain ⟨h1, h2⟩ := ConvL.iff h.2
    refine ⟨by simp [h1], fun j a b ha hb => ?_⟩
    cases j with
    | zero => simp at ha hb; subst ha hb; exact h.1
    | succ j => exact h2 j a b (by simpa using ha) (by simpa using hb)
  | [], y :: ys, h => by simp [ConvL] at h
  | x :: xs, [], h => by simp [ConvL] at h
theorem ConvL.fn {H : Heap} {D : Nat → Prop} {f : FuncId} {xs ys : List VV} (h : ConvL H D xs ys) : Conv id H D 0 (.fn f xs) (.fn f ys) := .fn h.iff.1 h.iff.2
theorem ConvL.agg {H : Heap} {D : Nat → Prop} {xs ys : List VV} (h : ConvL H D xs ys) : Conv id H D 0 (.agg xs) (.agg ys) := .agg h.iff.1 h.iff.2
theorem Conv.heap {τ : Nat → Nat} {H H2 : Heap} {D : Nat → Prop} {n' : Nat} (hH : ∀ j, D j → H2 j = H j) {x y : VV} (h : Conv τ H D n' x y) : Conv τ H2 D n' x y := by
  induction h with
  | any x => exact .any x
  | clo h => exact .clo h
  | nil z => exact .nil z
  | rf e hk h => exact .rf e hk h
  | pt e hk h => exact .pt e hk h
  | agg hl _ ih => exact .agg hl ih
  | tup hl _ ih => exact .tup hl ih
  | fn hl _ ih => exact .fn hl ih
  | frf hk hc hl he hz hcl => exact .frf hk ((hH _ hk).trans hc) hl he hz hcl
  | frd hk hc hl he hz hcl => exact .frd hk ((hH _ hk).trans hc) hl he hz hcl
  | frn hk hc hl he _ hz hcl ih => exact .frn hk ((hH _ hk).trans hc) hl he ih hz hcl
  | fpd hk hc he hcl => exact .fpd hk ((hH _ hk).trans hc) he hcl
  | fpt hk hc he hcl => exact .fpt hk ((hH _ hk).trans hc) he hcl
theorem ConvL.heap {H H2 : Heap} {D : Nat → Prop} (hH : ∀ j, D j → H2 j = H j) : ∀ {xs ys : List VV}, ConvL H D xs ys → ConvL H2 D xs ys
  | [], [], _ => trivial
  | x :: xs, y :: ys, h => ⟨h.1.heap hH, ConvL.heap hH h.2⟩
  | [], y :: ys, h => by simp [ConvL] at h
  | x :: xs, [], h => by simp [ConvL] at h
theorem CallP.borrow {P : Program} {f : FuncId} {args args' : List VV} {u : Value} {H : Heap} {n : Nat} {K : VV → Heap → Nat → Prop} {D : Nat → Prop} (h : PureC P f args' (.sc u)) (hc : ConvL H D args args') (hK : K (.sc u) H n) : CallP P f args H n K := by
  obtain ⟨S, hsat, hS⟩ := h
  refine ⟨fun as H2 n K => as = args ∧ H2 = H ∧ K (.sc u) H n, ⟨hsat.fn, ?_⟩, rfl, rfl, hK⟩
  rintro as H2 n K ⟨rfl, rfl, hK⟩ C vs hH hB hN hrep
  let C0 : Cx := covC C id H2 D 0
  have hrep0 : RepL C0 args' vs := by
    obtain ⟨h1, h2⟩ := hc.iff
    exact hrep.of_cells h1 fun j x y v a b c => (h2 j x y a b).ok hH c
  refine (hsat.calls args' H0 0 (fun r' _ _ => r' = .sc u) (hS _ _ _ rfl) C0 vs (hok0 C0) (fun b hb => hB b hb.1) (fun j h => h.2) hrep0).mono ?_
  rintro e w' ⟨r', H', n', C', v, rfl, rfl, rfl, hrv, hs⟩
  have hfr0 : Fr (fun _ => False) C0.w C'.w := fr_out hs
  have hfr : Fr (fun _ => False) C.w C'.w := hfr0
  let C1 : Cx := ⟨C'.w, C.ρ, C.F, C.N, C.φ⟩
  have hL : Le C C1 := Le.of_fr (hfr.mono fun _ _ h => h.elim) (fun _ h => h) (fun _ _ => rfl) (fun _ _ h => h)
  refine ⟨_, H2, n, C1, v, hK, rfl, rfl, by simpa only [Rep] using hrv, ⟨hL, hfr.mono fun _ _ h => h.elim, ⟨hH.nm, hH.own, fun k cs hk => (hH.obj k cs hk).mono hL (fun q hq => hfr.block q (hB q (hH.own k (by rw [hk]; simp) q hq)) (fun h => h)), hH.nodup, hH.sep⟩, fun b hb => Nat.lt_of_lt_of_le (hB b hb) hfr.size, Nat.le_refl _, hN, fun _ h => .inl h, fun _ _ h => .inl h, fun _ h => .inl h, fun b hb => .inl hb⟩⟩
theorem CallD.borrow {P : Program} {f : FuncId} {args args' : List VV} {u : Value} {H : Heap} {m : Nat} (ks : List Nat) (h : PureC P f args' (.sc u)) (hc : ConvL H (fun k => k ∈ ks) args args') : CallD P f args H m ks (.sc u) H :=
  ⟨fun _ _ => rfl, .inl fun H2 n hH => CallP.borrow h (hc.heap hH) ⟨rfl, rfl, fun j => by
    by_cases hj : j ∈ ks
    · rw [if_pos hj]; exact hH j hj
    · rw [if_neg hj]⟩⟩
end Go.VM

/- VMS: the machine's steps as equations, read from outside in. -/
namespace Go.VM
open Go.RowKit

def optV (o : Option (VV × Heap)) (K : Slots → Heap → Nat → Prop) (s : Slots) (d : Option Nat) (n : Nat) : Prop :=
  match o with
  | some (r, H) => K (s.put d r) H (n + 1)
  | none => False
def gdO (g : Option Bool) (P : Program) (o : VOper) (r : List VOper) (K : Slots → Heap → Nat → Prop) (s : Slots) (H : Heap) (n : Nat) : Prop :=
  match g with
  | some true => vstep P o (vops P r K) s H n
  | some false => vops P r K (s.put o.dst (.sc undef)) H n
  | none => False
/-- One of two, the condition known or not. -/
def cdO (v : VV) (X : Fn) (a b : VCode) (Q : VPost) (s : Slots) (H : Heap) (n : Nat) : Prop :=
  match v with
  | .sc (.bool t) => if t = true then vwp X a Q s H n else vwp X b Q s H n
  | _ => False
def callO (P : Program) (f : FuncId) (args : List VV) (K : Slots → Heap → Nat → Prop) (s : Slots) (d : Option Nat) (H : Heap) (n : Nat) : Prop := CallP P f args H n fun r H' n' => K (s.put d r) H' n'

section
variable {P : Program} {K : Slots → Heap → Nat → Prop} {s : Slots} {H : Heap} {n : Nat} {d : Option Nat} {g : Option (Nat × Bool)} {r : List VOper} {o : VOper}
theorem optV_some {v : VV} : optV (some (v, H)) K s d n = K (s.put d v) H (n + 1) := rfl
theorem gdO_true : gdO (some true) P o r K s H n = vstep P o (vops P r K) s H n := rfl
theorem gdO_false {op : VOp} : gdO (some false) P ⟨d, op, g⟩ r K s H n = vops P r K (s.put d (.sc undef)) H n := rfl
theorem gdO_bool (t : Bool) (h1 : t = true → gdO (some true) P o r K s H n) (h2 : t = false → gdO (some false) P o r K s H n) : gdO (some t) P o r K s H n := by
  cases t
  · exact h2 rfl
  · exact h1 rfl
theorem gdO_bool' (t : Bool) (h1 : t = true → gdO (some false) P o r K s H n) (h2 : t = false → gdO (some true) P o r K s H n) : gdO (some (!t)) P o r K s H n := by
  cases t
  · exact h2 rfl
  · exact h1 rfl
theorem vops_nil : vops P [] K s H n = K s H n := rfl
theorem vops_cons {op : VOp} {q : Nat × Bool} : vops P (⟨d, op, some q⟩ :: r) K s H n = gdO (gdV s (some q)) P ⟨d, op, some q⟩ r K s H n := by
  simp only [vops, gdO]
  cases gdV s (some q) with
  | none => rfl
  | some b => cases b <;> rfl
theorem vops_cons_none {op : VOp} : vops P (⟨d, op, none⟩ :: r) K s H n = vstep P ⟨d, op, none⟩ (vops P r K) s H n := rfl
theorem vstep_call {f : FuncId} {args : List Operand} : vstep P ⟨d, .call f args, g⟩ K s H n = callO P f (args.map s.ev) K s d H n := rfl
theorem vstep_mov {x : Operand} : vstep P ⟨d, .mov x, g⟩ K s H n = K (s.put d (s.ev x)) H (n + 1) := rfl
theorem vstep_pick {c a b : Operand} : vstep P ⟨d, .pick c a b, g⟩ K s H n = optV (vop s.ev H n (.pick c a b)) K s d n := rfl
theorem vstep_new {zs : List Value} : vstep P ⟨d, .new zs, g⟩ K s H n = optV (vop s.ev H n (.new zs)) K s d n := rfl
theorem vstep_box {x : Operand} : vstep P ⟨d, .box x, g⟩ K s H n = optV (vop s.ev H n (.box x)) K s d n := rfl
theorem vstep_build {zs : List Value} {ps : List (Nat × Nat × Operand)} : vstep P ⟨d, .build zs ps, g⟩ K s H n = optV (vop s.ev H n (.build zs ps)) K s d n := rfl
theorem vstep_bslice {z l : Nat} {zs : List Value} {ps : List (Nat × Nat × Operand)} : vstep P ⟨d, .bslice z l zs ps, g⟩ K s H n = optV (vop s.ev H n (.bslice z l zs ps)) K s d n := rfl
theorem vstep_load {ag : Bool} {k : Nat} {p : Operand} : vstep P ⟨d, .load ag k p, g⟩ K s H n = optV (vop s.ev H n (.load ag k p)) K s d n := rfl
theorem vstep_store {k : Nat} {p x : Operand} : vstep P ⟨d, .store k p x, g⟩ K s H n = optV (vop s.ev H n (.store k p x)) K s d n := rfl
theorem vstep_nilc {x : Operand} : vstep P ⟨d, .nilc x, g⟩ K s H n = optV (vop s.ev H n (.nilc x)) K s d n := rfl
theorem vstep_bin {o : BinOp} {e : EqK} {x y : Operand} : vstep P ⟨d, .bin o e x y, g⟩ K s H n = optV (vop s.ev H n (.bin o e x y)) K s d n := rfl
theorem vstep_un {o : UnOp} {x : Operand} : vstep P ⟨d, .un o x, g⟩ K s H n = optV (vop s.ev H n (.un o x)) K s d n := rfl
theorem vstep_cint {k : IntKind} {x : Operand} : vstep P ⟨d, .cint k x, g⟩ K s H n = optV (vop s.ev H n (.cint k x)) K s d n := rfl
theorem vstep_cstr {x : Operand} : vstep P ⟨d, .cstr x, g⟩ K s H n = optV (vop s.ev H n (.cstr x)) K s d n := rfl
theorem vstep_mks {z bb : Nat} {zs : List Value} {x : Operand} : vstep P ⟨d, .mks z bb zs x, g⟩ K s H n = optV (vop s.ev H n (.mks z bb zs x)) K s d n := rfl
theorem vstep_mkf {f : FuncId} {cs : List Operand} : vstep P ⟨d, .mkf f cs, g⟩ K s H n = optV (vop s.ev H n (.mkf f cs)) K s d n := rfl
theorem vstep_slice {z : Nat} {x : Operand} {lo hi : Option Operand} : vstep P ⟨d, .slice z x lo hi, g⟩ K s H n = optV (vop s.ev H n (.slice z x lo hi)) K s d n := rfl
theorem vstep_sslice {x : Operand} {lo hi : Option Operand} : vstep P ⟨d, .sslice x lo hi, g⟩ K s H n = optV (vop s.ev H n (.sslice x lo hi)) K s d n := rfl
theorem vstep_fad {o : Nat} {x : Operand} : vstep P ⟨d, .fad o x, g⟩ K s H n = optV (vop s.ev H n (.fad o x)) K s d n := rfl
theorem vstep_fld {ag : Bool} {o k : Nat} {x : Operand} : vstep P ⟨d, .fld ag o k x, g⟩ K s H n = optV (vop s.ev H n (.fld ag o k x)) K s d n := rfl
theorem vstep_iad {z : Nat} {x i : Operand} : vstep P ⟨d, .iad z x i, g⟩ K s H n = optV (vop s.ev H n (.iad z x i)) K s d n := rfl
theorem vstep_iada {z l : Nat} {x i : Operand} : vstep P ⟨d, .iada z l x i, g⟩ K s H n = optV (vop s.ev H n (.iada z l x i)) K s d n := rfl
theorem vstep_sidx {x i : Operand} : vstep P ⟨d, .sidx x i, g⟩ K s H n = optV (vop s.ev H n (.sidx x i)) K s d n := rfl
theorem vstep_ext {x : Operand} {i : Nat} : vstep P ⟨d, .ext x i, g⟩ K s H n = optV (vop s.ev H n (.ext x i)) K s d n := rfl
theorem vstep_app {z bb : Nat} {x y : Operand} : vstep P ⟨d, .app z bb x y, g⟩ K s H n = optV (vop s.ev H n (.app z bb x y)) K s d n := rfl
theorem vstep_len {b : Bool} {x : Operand} : vstep P ⟨d, .len b x, g⟩ K s H n = optV (vop s.ev H n (.len b x)) K s d n := rfl
def callvO (P : Program) (v : VV) (args : List VV) (K : Slots → Heap → Nat → Prop) (s : Slots) (d : Option Nat) (H : Heap) (n : Nat) : Prop :=
  match v with
  | .fn g caps => callO P g (args ++ caps) K s d H n
  | _ => False
theorem vstep_callv {f : Operand} {args : List Operand} : vstep P ⟨d, .callv f args, g⟩ K s H n = callvO P (s.ev f) (args.map s.ev) K s d H n := by
  simp only [vstep, callvO, callO]
  cases s.ev f <;> rfl
theorem callvO_fn {f : FuncId} {caps args : List VV} : callvO P (.fn f caps) args K s d H n = callO P f (args ++ caps) K s d H n := rfl
theorem callO.borrow {f : FuncId} {args args' : List VV} {u : Value} {D : Nat → Prop} (h : PureC P f args' (.sc u)) (hc : ConvL H D args args') (hK : K (s.put d (.sc u)) H n) : callO P f args K s d H n := CallP.borrow h hc hK
theorem callO.pure {f : FuncId} {args : List VV} {v : VV} (h : PureC P f args v) (hK : K (s.put d v) H n) : callO P f args K s d H n := CallP.pure h hK
end

def vdrK (P : Program) (n : Nat) (r : List (VOper × List Nat)) (i : Nat) (K : Slots → Heap → Prop) : Log → Slots → Heap → Prop := fun log => vdr P n r (i + 1) log K
def gdD (g : Option Bool) (P : Program) (n i : Nat) (log : Log) (inc : List Nat) (o : VOper) (r : List (VOper × List Nat)) (K : Slots → Heap → Prop) (s : Slots) (H : Heap) : Prop :=
  match g with
  | some true => vdr1 P n i log inc o (vdrK P n r i K) s H
  | some false => vdr P n r (i + 1) log K (s.put o.dst (.sc undef)) H
  | none => False
def optD (o : Option (VV × Heap)) (rd wr : List Nat) (P : Program) (n : Nat) (r : List (VOper × List Nat)) (i : Nat) (log : Log) (inc : List Nat) (K : Slots → Heap → Prop) (s : Slots) (d : Option Nat) : Prop :=
  match o with
  | some (v, H') => okInc log inc rd wr ∧ vdr P n r (i + 1) (addLog i rd wr log) K (s.put d v) H'
  | none => False
def optW (o : Option (VV × Heap)) (P : Program) (n : Nat) (r : List (VOper × List Nat)) (i : Nat) (log : Log) (K : Slots → Heap → Prop) (s : Slots) (d : Option Nat) : Prop :=
  match o with
  | some (v, H') => vdr P n r (i + 1) log K (s.put d v) H'
  | none => False
section
variable {P : Program} {K : Slots → Heap → Prop} {s : Slots} {H : Heap} {n i : Nat} {d : Option Nat} {g : Option (Nat × Bool)} {r : List (VOper × List Nat)} {log : Log} {inc : List Nat} {o : VOper}
theorem okInc_nil : ∀ {log : Log}, okInc log inc [] [] = True
  | [] => by simp [okInc]
  | (a, b, c) :: l => by simp only [okInc, Disj.nil', implies_true, okInc_nil, and_self]
theorem optW_some {v : VV} : optW (some (v, H)) P n r i log K s d = vdr P n r (i + 1) log K (s.put d v) H := rfl
theorem optD_some {v : VV} {rd wr : List Nat} : optD (some (v, H)) rd wr P n r i log inc K s d = (okInc log inc rd wr ∧ vdr P n r (i + 1) (addLog i rd wr log) K (s.put d v) H) := rfl
theorem gdD_true : gdD (some true) P n i log inc o r K s H = vdr1 P n i log inc o (vdrK P n r i K) s H := rfl
theorem gdD_false {op : VOp} : gdD (some false) P n i log inc ⟨d, op, g⟩ r K s H = vdr P n r (i + 1) log K (s.put d (.sc undef)) H := rfl
theorem gdD_bool (t : Bool) (h1 : t = true → gdD (some true) P n i log inc o r K s H) (h2 : t = false → gdD (some false) P n i log inc o r K s H) : gdD (some t) P n i log inc o r K s H := by
  cases t
  · exact h2 rfl
  · exact h1 rfl
theorem gdD_bool' (t : Bool) (h1 : t = true → gdD (some false) P n i log inc o r K s H) (h2 : t = false → gdD (some true) P n i log inc o r K s H) : gdD (some (!t)) P n i log inc o r K s H := by
  cases t
  · exact h2 rfl
  · exact h1 rfl
theorem vdr_nil : vdr P n [] i log K s H = K s H := rfl
theorem vdr_cons {op : VOp} {q : Nat × Bool} : vdr P n ((⟨d, op, some q⟩, inc) :: r) i log K s H = gdD (gdV s (some q)) P n i log inc ⟨d, op, some q⟩ r K s H := by
  simp only [vdr, gdD]
  cases gdV s (some q) with
  | none => rfl
  | some b => cases b <;> rfl
theorem vdr_cons_none {op : VOp} : vdr P n ((⟨d, op, none⟩, inc) :: r) i log K s H = vdr1 P n i log inc ⟨d, op, none⟩ (vdrK P n r i K) s H := rfl
theorem vdr_pure {op : VOp} (h : isCall op = false) (h2 : heapy op = false) : vdr1 P n i log inc ⟨d, op, g⟩ (vdrK P n r i K) s H = optW (vop s.ev H (n + i) op) P n r i log K s d := by
  cases op <;> simp [isCall] at h <;> simp [heapy] at h2 <;> simp only [vdr1, vdrK, optW, rds, wrs, okInc_nil, true_and, addLog] <;> split <;> rename_i hv <;> rw [hv]
theorem vdr1_mov {x : Operand} : vdr1 P n i log inc ⟨d, .mov x, g⟩ (vdrK P n r i K) s H = vdr P n r (i + 1) log K (s.put d (s.ev x)) H := by rw [vdr_pure rfl rfl]; rfl
theorem vdr1_pick {c a b : Operand} : vdr1 P n i log inc ⟨d, .pick c a b, g⟩ (vdrK P n r i K) s H = optW (vop s.ev H (n + i) (.pick c a b)) P n r i log K s d := vdr_pure rfl rfl
theorem vdr1_new {zs : List Value} : vdr1 P n i log inc ⟨d, .new zs, g⟩ (vdrK P n r i K) s H = optD (vop s.ev H (n + i) (.new zs)) (rds s.ev (.new zs)) (wrs (n + i) s.ev (.new zs)) P n r i log inc K s d := rfl
theorem vdr1_box {x : Operand} : vdr1 P n i log inc ⟨d, .box x, g⟩ (vdrK P n r i K) s H = optD (vop s.ev H (n + i) (.box x)) (rds s.ev (.box x)) (wrs (n + i) s.ev (.box x)) P n r i log inc K s d := rfl
theorem vdr1_build {zs : List Value} {ps : List (Nat × Nat × Operand)} : vdr1 P n i log inc ⟨d, .build zs ps, g⟩ (vdrK P n r i K) s H = optW (vop s.ev H (n + i) (.build zs ps)) P n r i log K s d := vdr_pure rfl rfl
theorem vdr1_bslice {z l : Nat} {zs : List Value} {ps : List (Nat × Nat × Operand)} : vdr1 P n i log inc ⟨d, .bslice z l zs ps, g⟩ (vdrK P n r i K) s H = optD (vop s.ev H (n + i) (.bslice z l zs ps)) (rds s.ev (.bslice z l zs ps)) (wrs (n + i) s.ev (.bslice z l zs ps)) P n r i log inc K s d := rfl
theorem vdr1_load {ag : Bool} {k : Nat} {p : Operand} : vdr1 P n i log inc ⟨d, .load ag k p, g⟩ (vdrK P n r i K) s H = optD (vop s.ev H (n + i) (.load ag k p)) (rds s.ev (.load ag k p)) (wrs (n + i) s.ev (.load ag k p)) P n r i log inc K s d := rfl
theorem vdr1_store {k : Nat} {p x : Operand} : vdr1 P n i log inc ⟨d, .store k p x, g⟩ (vdrK P n r i K) s H = optD (vop s.ev H (n + i) (.store k p x)) (rds s.ev (.store k p x)) (wrs (n + i) s.ev (.store k p x)) P n r i log inc K s d := rfl
theorem vdr1_nilc {x : Operand} : vdr1 P n i log inc ⟨d, .nilc x, g⟩ (vdrK P n r i K) s H = optW (vop s.ev H (n + i) (.nilc x)) P n r i log K s d := vdr_pure rfl rfl
theorem vdr1_bin {o : BinOp} {e : EqK} {x y : Operand} : vdr1 P n i log inc ⟨d, .bin o e x y, g⟩ (vdrK P n r i K) s H = optW (vop s.ev H (n + i) (.bin o e x y)) P n r i log K s d := vdr_pure rfl rfl
theorem vdr1_un {o : UnOp} {x : Operand} : vdr1 P n i log inc ⟨d, .un o x, g⟩ (vdrK P n r i K) s H = optW (vop s.ev H (n + i) (.un o x)) P n r i log K s d := vdr_pure rfl rfl
theorem vdr1_cint {k : IntKind} {x : Operand} : vdr1 P n i log inc ⟨d, .cint k x, g⟩ (vdrK P n r i K) s H = optW (vop s.ev H (n + i) (.cint k x)) P n r i log K s d := vdr_pure rfl rfl
theorem vdr1_cstr {x : Operand} : vdr1 P n i log inc ⟨d, .cstr x, g⟩ (vdrK P n r i K) s H = optD (vop s.ev H (n + i) (.cstr x)) (rds s.ev (.cstr x)) (wrs (n + i) s.ev (.cstr x)) P n r i log inc K s d := rfl
theorem vdr1_mks {z bb : Nat} {zs : List Value} {x : Operand} : vdr1 P n i log inc ⟨d, .mks z bb zs x, g⟩ (vdrK P n r i K) s H = optD (vop s.ev H (n + i) (.mks z bb zs x)) (rds s.ev (.mks z bb zs x)) (wrs (n + i) s.ev (.mks z bb zs x)) P n r i log inc K s d := rfl
theorem vdr1_mkf {f : FuncId} {cs : List Operand} : vdr1 P n i log inc ⟨d, .mkf f cs, g⟩ (vdrK P n r i K) s H = optW (vop s.ev H (n + i) (.mkf f cs)) P n r i log K s d := vdr_pure rfl rfl
theorem vdr1_slice {z : Nat} {x : Operand} {lo hi : Option Operand} : vdr1 P n i log inc ⟨d, .slice z x lo hi, g⟩ (vdrK P n r i K) s H = optW (vop s.ev H (n + i) (.slice z x lo hi)) P n r i log K s d := vdr_pure rfl rfl
theorem vdr1_sslice {x : Operand} {lo hi : Option Operand} : vdr1 P n i log inc ⟨d, .sslice x lo hi, g⟩ (vdrK P n r i K) s H = optW (vop s.ev H (n + i) (.sslice x lo hi)) P n r i log K s d := vdr_pure rfl rfl
theorem vdr1_fad {o : Nat} {x : Operand} : vdr1 P n i log inc ⟨d, .fad o x, g⟩ (vdrK P n r i K) s H = optW (vop s.ev H (n + i) (.fad o x)) P n r i log K s d := vdr_pure rfl rfl
theorem vdr1_fld {ag : Bool} {o k : Nat} {x : Operand} : vdr1 P n i log inc ⟨d, .fld ag o k x, g⟩ (vdrK P n r i K) s H = optW (vop s.ev H (n + i) (.fld ag o k x)) P n r i log K s d := vdr_pure rfl rfl
theorem vdr1_iad {z : Nat} {x j : Operand} : vdr1 P n i log inc ⟨d, .iad z x j, g⟩ (vdrK P n r i K) s H = optW (vop s.ev H (n + i) (.iad z x j)) P n r i log K s d := vdr_pure rfl rfl
theorem vdr1_iada {z l : Nat} {x j : Operand} : vdr1 P n i log inc ⟨d, .iada z l x j, g⟩ (vdrK P n r i K) s H = optW (vop s.ev H (n + i) (.iada z l x j)) P n r i log K s d := vdr_pure rfl rfl
theorem vdr1_sidx {x j : Operand} : vdr1 P n i log inc ⟨d, .sidx x j, g⟩ (vdrK P n r i K) s H = optW (vop s.ev H (n + i) (.sidx x j)) P n r i log K s d := vdr_pure rfl rfl
theorem vdr1_ext {x : Operand} {j : Nat} : vdr1 P n i log inc ⟨d, .ext x j, g⟩ (vdrK P n r i K) s H = optW (vop s.ev H (n + i) (.ext x j)) P n r i log K s d := vdr_pure rfl rfl
theorem vdr1_app {z bb : Nat} {x y : Operand} : vdr1 P n i log inc ⟨d, .app z bb x y, g⟩ (vdrK P n r i K) s H = optD (vop s.ev H (n + i) (.app z bb x y)) (rds s.ev (.app z bb x y)) (wrs (n + i) s.ev (.app z bb x y)) P n r i log inc K s d := rfl
theorem vdr1_len {b : Bool} {x : Operand} : vdr1 P n i log inc ⟨d, .len b x, g⟩ (vdrK P n r i K) s H = optW (vop s.ev H (n + i) (.len b x)) P n r i log K s d := vdr_pure rfl rfl
theorem vdr_pcall {f : FuncId} {args : List Operand} {v : VV} (h : PureC P f (args.map s.ev) v) (hK : vdr P n r (i + 1) log K (s.put d v) H) : vdr1 P n i log inc ⟨d, .call f args, g⟩ (vdrK P n r i K) s H := by
  refine ⟨[], v, H, CallD.pure h, ?_, hK⟩
  rw [okInc_nil]; trivial
def callW (P : Program) (f : FuncId) (args : List VV) (n i : Nat) (log : Log) (inc : List Nat) (r : List (VOper × List Nat)) (K : Slots → Heap → Prop) (s : Slots) (d : Option Nat) (H : Heap) : Prop :=
  ∃ ks v H', CallD P f args H (n + i) ks v H' ∧ okInc log inc ks ks ∧ vdr P n r (i + 1) (addLog i ks ks log) K (s.put d v) H'
theorem vdr1_call {f : FuncId} {args : List Operand} : vdr1 P n i log inc ⟨d, .call f args, g⟩ (vdrK P n r i K) s H = callW P f (args.map s.ev) n i log inc r K s d H := rfl
theorem callW.borrow {f : FuncId} {args args' : List VV} {u : Value} (ks : List Nat) (h : PureC P f args' (.sc u)) (hc : ConvL H (fun k => k ∈ ks) args args') (ho : okInc log inc ks ks) (hK : vdr P n r (i + 1) (addLog i ks ks log) K (s.put d (.sc u)) H) : callW P f args n i log inc r K s d H :=
  ⟨ks, _, H, CallD.borrow ks h hc, ho, hK⟩
theorem callW.pure {f : FuncId} {args : List VV} {v : VV} (h : PureC P f args v) (hK : vdr P n r (i + 1) log K (s.put d v) H) : callW P f args n i log inc r K s d H := by
  refine ⟨[], v, H, CallD.pure h, ?_, hK⟩
  rw [okInc_nil]; trivial
end
section
variable {X : Fn} {Q : VPost} {s : Slots} {H : Heap} {n : Nat} {a b : VCode}
theorem vwp_skip : vwp X .skip Q s H n = Q .normal s H n := rfl
theorem vwp_ret : vwp X .ret Q s H n = Q .ret s H n := rfl
theorem vwp_exit {i : Nat} : vwp X (.exit i) Q s H n = Q (.exit i) s H n := rfl
theorem vwp_reg {l : List VOper} : vwp X (.reg l) Q s H n = vops X.P l (Q .normal) s H n := rfl
/-- Behind a region that draws. -/
def behind (Q : VPost) (n : Nat) : Slots → Heap → Prop := fun s H => Q .normal s H n
theorem behind_eq : behind Q n s H = Q .normal s H n := rfl
theorem vwp_drw {l : List (VOper × List Nat)} : vwp X (.drw l) Q s H n = vdr X.P n l 0 [] (behind Q (n + l.length)) s H := rfl
theorem vwp_seq : vwp X (.seq a b) Q s H n = vwp X a (thenV (vwp X b Q) Q) s H n := rfl
theorem vwp_block {i : Nat} : vwp X (.block i b) Q s H n = vwp X b (blockV i Q) s H n := rfl
theorem vwp_loop : vwp X (.loop b) Q s H n = SWv X (.loop b) Q s H n := rfl
theorem vwp_cond {c : Operand} : vwp X (.cond c a b) Q s H n = cdO (s.ev c) X a b Q s H n := by
  show (match s.ev c with | .sc (.bool t) => if t = true then vwp X a Q s H n else vwp X b Q s H n | _ => False) = _
  unfold cdO
  cases s.ev c with
  | sc v => cases v <;> rfl
  | _ => rfl
theorem cdO_true : cdO (.sc (.bool true)) X a b Q s H n = vwp X a Q s H n := rfl
theorem cdO_false : cdO (.sc (.bool false)) X a b Q s H n = vwp X b Q s H n := rfl
theorem cdO_bool (t : Bool) (h1 : t = true → vwp X a Q s H n) (h2 : t = false → vwp X b Q s H n) : cdO (.sc (.bool t)) X a b Q s H n := by
  cases t
  · exact h2 rfl
  · exact h1 rfl
theorem cdO_bool' (t : Bool) (h1 : t = true → vwp X b Q s H n) (h2 : t = false → vwp X a Q s H n) : cdO (.sc (.bool (!t))) X a b Q s H n := by
  cases t
  · exact h2 rfl
  · exact h1 rfl
theorem thenV_normal {next : Slots → Heap → Nat → Prop} : thenV next Q .normal s H n = next s H n := rfl
theorem thenV_exit {next : Slots → Heap → Nat → Prop} {i : Nat} : thenV next Q (.exit i) s H n = Q (.exit i) s H n := rfl
theorem thenV_ret {next : Slots → Heap → Nat → Prop} : thenV next Q .ret s H n = Q .ret s H n := rfl
theorem blockV_normal {i : Nat} : blockV i Q .normal s H n = Q .normal s H n := rfl
theorem blockV_ret {i : Nat} : blockV i Q .ret s H n = Q .ret s H n := rfl
theorem blockV_exit {i : Nat} : blockV i Q (.exit i) s H n = Q .normal s H n := by simp [blockV]
theorem blockV_exit_ne {i j : Nat} (h : j ≠ i) : blockV i Q (.exit j) s H n = Q (.exit j) s H n := by simp [blockV, h]
end
/-! ### Slots -/
theorem ev_tmp {s : Slots} {t : Nat} : s.ev (.tmp t) = s t := rfl
theorem ev_const {s : Slots} {v : Value} : s.ev (.const v) = .sc v := rfl
theorem ev_func {s : Slots} {f : FuncId} : s.ev (.func f) = .fn f [] := rfl
theorem put_none {s : Slots} {v : VV} : s.put none v = s := rfl
theorem put_eq {s : Slots} {v : VV} {d : Nat} : s.put (some d) v d = v := by simp [Slots.put]
theorem put_ne {s : Slots} {v : VV} {d j : Nat} (h : j ≠ d) : s.put (some d) v j = s j := by simp [Slots.put, h]
theorem initS_zero {a : VV} {l : List VV} : initS (a :: l) 0 = a := rfl
theorem initS_get {l : List VV} {j : Nat} : initS l j = (l[j]?).getD (.sc undef) := rfl
theorem slotsOf_eq {i : Nat} {v : VV} {l : List (Nat × VV)} : slotsOf ((i, v) :: l) i = v := by simp [slotsOf]
theorem slotsOf_ne {i j : Nat} {v : VV} {l : List (Nat × VV)} (h : j ≠ i) : slotsOf ((i, v) :: l) j = slotsOf l j := by simp [slotsOf, h]
theorem heapOf_eq {i : Nat} {v : List VV} {l : List (Nat × List VV)} : heapOf ((i, v) :: l) i = some v := by simp [heapOf]
theorem heapOf_ne {i j : Nat} {v : List VV} {l : List (Nat × List VV)} (h : j ≠ i) : heapOf ((i, v) :: l) j = heapOf l j := by simp [heapOf, h]
theorem upd_eq {H : Heap} {k : Nat} {cs : List VV} : upd H k cs k = some cs := by simp [upd]
theorem upd_ne {H : Heap} {k j : Nat} {cs : List VV} (h : j ≠ k) : upd H k cs j = H j := by simp [upd, h]
theorem kill_ne {H : Heap} {k j : Nat} (h : j ≠ k) : kill H k j = H j := by simp [kill, h]
theorem gdV_tt {s : Slots} {d : Nat} {t : Bool} (h : s d = .sc (.bool t)) : gdV s (some (d, true)) = some t := by simp [gdV, h]
theorem gdV_ff {s : Slots} {d : Nat} {t : Bool} (h : s d = .sc (.bool t)) : gdV s (some (d, false)) = some (!t) := by simp [gdV, h]
theorem gdV_un {s : Slots} {d : Nat} {b : Bool} (h : s d = .sc undef) : gdV s (some (d, b)) = some false := by
  simp only [gdV, h]; rfl
def gB : VV → Bool → Option Bool
  | .sc (.bool t), b => some (if b = true then t else !t)
  | .sc (.tuple _), _ => some false
  | _, _ => none
theorem gdV_gB {s : Slots} {d : Nat} {b : Bool} : gdV s (some (d, b)) = gB (s d) b := by
  unfold gdV gB
  simp only
  split
  · rename_i t hs; rw [hs]; cases t <;> cases b <;> rfl
  · rename_i t hs; rw [hs]
  · rename_i h1 h2
    split
    · rename_i t hs; exact absurd hs (h1 t)
    · rename_i t hs; exact absurd hs (h2 t)
    · rfl
theorem gB_tt {t : Bool} : gB (.sc (.bool t)) true = some t := rfl
theorem gB_ff {t : Bool} : gB (.sc (.bool t)) false = some (!t) := rfl
theorem gB_un {b : Bool} : gB (.sc undef) b = some false := rfl
theorem ppost_t {d : Nat} {r : VV} {x : VExit} {s : Slots} {H : Heap} {n : Nat} (hx : x = .normal ∨ x = .ret) (hc : r.clo = true) (h : s d = r) : PPost [.t d] r x s H n :=
  ⟨hx, [s d], rfl, by rw [h]; exact .clo hc⟩

theorem ppost_rf {d k off len z : Nat} {cs : List VV} {l : List (List VV)} {x : VExit} {s : Slots} {H : Heap} {n : Nat} (hx : x = .normal ∨ x = .ret) (hs : s d = .rf k off len z) (hH : H k = some cs) (hl : l.length = len)
    (he : (cs.drop off).take (len * z) = l.flatten) (hz : ∀ r ∈ l, r.length = z) (hc : VV.cloL l.flatten = true) : PPost [.t d] (.sl z l) x s H n :=
  ⟨hx, [s d], rfl, by rw [hs]; exact .frf trivial hH hl he hz hc⟩
theorem ppost_c {d k off m : Nat} {ag : Bool} {cs : List VV} {r v : VV} {x : VExit} {s : Slots} {H : Heap} {n : Nat} (hx : x = .normal ∨ x = .ret) (hs : s d = .pt k off) (hH : H k = some cs) (hr : rdV ag m (cs.drop off) = some v)
    (hv : v = r) (hc : r.clo = true) : PPost [.c d ag m] r x s H n :=
  ⟨hx, [v], by simp only [resV, hs, hH, hr, Option.map_some], by rw [hv]; exact .clo hc⟩
/-! ### Loops, and what is kept from round to round -/
def roundV (X : Fn) (I : Nat → Slots → Heap → Nat → Prop) (μ : Nat) : Slots → Heap → Nat → Prop :=
  fun s' H' n' => XOk X → ∃ R s'' H'' n'' μ', Vw X R H' n' H'' n'' ∧ (∀ j, R (s' j) (s'' j)) ∧ Low X.m s'' ∧ μ' < μ ∧ I μ' s'' H'' n''
theorem loopV {X : Fn} (hX : XOk X) {b : VCode} {Q : VPost} (I : Nat → Slots → Heap → Nat → Prop) (round : ∀ μ s H n, I μ s H n → vwp X b (thenV (roundV X I μ) Q) s H n)
    {s : Slots} {H : Heap} {n : Nat} (start : ∃ μ, roundV X I μ s H n) : SWv X (.loop b) Q s H n := by
  obtain ⟨μ, h⟩ := start
  obtain ⟨R, s'', H'', n'', μ', hc, hs, hl, _, hI⟩ := h hX
  refine SWv.loop hX I (fun μ s H n h c hcc C a hA => ?_) hc hs hl hI
  refine wp_mono (vwp_ok _ (round μ s H n h) c hcc C a hA) ?_
  rintro e a' w' ⟨C', s', H', n', v, hw, hA', hv, hQ⟩
  refine ⟨C', s', H', n', v, hw, hA', hv, ?_⟩
  cases v with
  | normal => exact hQ hX
  | exit id => exact hQ
  | ret => exact hQ
/-- Seen otherwise at a round's begin. -/
theorem loopW {X : Fn} (hX : XOk X) {b : VCode} {Q : VPost} (I : Nat → Slots → Heap → Nat → Prop) (round : ∀ μ s H n, I μ s H n → ∃ H' n', Vw X Eq H n H' n' ∧ vwp X b (thenV (roundV X I μ) Q) s H' n')
    {s : Slots} {H : Heap} {n : Nat} (start : ∃ μ, roundV X I μ s H n) : SWv X (.loop b) Q s H n := by
  obtain ⟨μ, h⟩ := start
  obtain ⟨R, s'', H'', n'', μ', hc, hs, hl, _, hI⟩ := h hX
  refine SWv.loop hX I (fun μ s H n h => ?_) hc hs hl hI
  obtain ⟨H', n', hv, hw⟩ := round μ s H n h
  refine SWv.seen hX hv fun c hcc C a hA => ?_
  refine wp_mono (vwp_ok _ hw c hcc C a hA) ?_
  rintro e a' w' ⟨C', s', H', n', v, hw, hA', hv, hQ⟩
  refine ⟨C', s', H', n', v, hw, hA', hv, ?_⟩
  cases v with
  | normal => exact hQ hX
  | exit id => exact hQ
  | ret => exact hQ
theorem roundV.seen {X : Fn} {I : Nat → Slots → Heap → Nat → Prop} {μ : Nat} {s : Slots} {H H' : Heap} {n n' : Nat} (hv : Vw X Eq H n H' n') (h : roundV X I μ s H' n') : roundV X I μ s H n := fun hX => by
  obtain ⟨R, s'', H'', n'', μ', hc, hs, hl, hlt, hI⟩ := h hX
  exact ⟨_, s'', H'', n'', μ', hv.trans hc, fun j => ⟨_, rfl, hs j⟩, hl, hlt, hI⟩
def tau (ks : List Nat) (j : Nat) : Nat := ks.getD j 0
def HConv (ks : List Nat) (H : Heap) (hp : List (Nat × List VV)) : Prop :=
  ∀ e ∈ hp, e.1 < ks.length ∧ ∃ cs, H (tau ks e.1) = some cs ∧ cs.length = e.2.length ∧ ∀ (j : Nat) (x y : VV), cs[j]? = some x → e.2[j]? = some y → Conv (tau ks) H (fun k => k ∉ ks) ks.length x y ∧ (x.dry = false → y = x)
theorem HConv.nil {ks : List Nat} {H : Heap} : HConv ks H [] := fun e h => by simp at h
theorem HConv.same {ks : List Nat} {H : Heap} {i : Nat} {cs : List VV} {hp : List (Nat × List VV)} (hi : i < ks.length) (hH : H (tau ks i) = some cs) (hc : VV.cloL cs = true) (h : HConv ks H hp) : HConv ks H ((i, cs) :: hp) := by
  intro e he
  rcases List.mem_cons.1 he with rfl | he
  · refine ⟨hi, cs, hH, rfl, fun j x y h1 h2 => ?_⟩
    rw [h1] at h2; injection h2 with h2; subst h2
    exact ⟨.clo (cloL_iff.1 hc x (List.mem_of_getElem? h1)), fun _ => rfl⟩
  · exact h e he
/-- Cells that are seen as others. -/
def CellsC (ks : List Nat) (H : Heap) : List VV → List VV → Prop
  | [], [] => True
  | x :: xs, y :: ys => (Conv (tau ks) H (fun k => k ∉ ks) ks.length x y ∧ (x.dry = false → y = x)) ∧ CellsC ks H xs ys
  | _, _ => False
theorem CellsC.get {ks : List Nat} {H : Heap} : ∀ {xs ys : List VV}, CellsC ks H xs ys → xs.length = ys.length ∧ ∀ (j : Nat) (x y : VV), xs[j]? = some x → ys[j]? = some y → Conv (tau ks) H (fun k => k ∉ ks) ks.length x y ∧ (x.dry = false → y = x)
  | [], [], _ => ⟨rfl, fun j x y h => by simp at h⟩
  | x :: xs, y :: ys, h => by
    simp only [CellsC] at h
    obtain ⟨h1, h2⟩ := CellsC.get h.2
    refine ⟨by simp [h1], fun j a b ha hb => ?_⟩
    cases j with
    | zero => simp at ha hb; subst ha hb; exact h.1
    | succ j => exact h2 j a b (by simpa using ha) (by simpa using hb)
  | [], y :: ys, h => by simp [CellsC] at h
  | x :: xs, [], h => by simp [CellsC] at h
theorem CellsC.same {ks : List Nat} {H : Heap} : ∀ {xs : List VV}, VV.cloL xs = true → CellsC ks H xs xs
  | [], _ => trivial
  | x :: xs, h => by
    simp only [VV.cloL, Bool.and_eq_true] at h
    exact ⟨⟨.clo h.1, fun _ => rfl⟩, CellsC.same h.2⟩
theorem CellsC.append {ks : List Nat} {H : Heap} : ∀ {xs ys us vs : List VV}, CellsC ks H xs us → CellsC ks H ys vs → CellsC ks H (xs ++ ys) (us ++ vs)
  | [], ys, [], vs, _, h => h
  | x :: xs, ys, u :: us, vs, h, k => ⟨h.1, CellsC.append h.2 k⟩
  | [], _, _ :: _, _, h, _ => by simp [CellsC] at h
  | _ :: _, _, [], _, h, _ => by simp [CellsC] at h
theorem HConv.obj {ks : List Nat} {H : Heap} {i : Nat} {cs cs' : List VV} {hp : List (Nat × List VV)} (hi : i < ks.length) (hH : H (tau ks i) = some cs) (hc : CellsC ks H cs cs') (h : HConv ks H hp) : HConv ks H ((i, cs') :: hp) := by
  intro e he
  rcases List.mem_cons.1 he with rfl | he
  · exact ⟨hi, cs, hH, hc.get.1, hc.get.2⟩
  · exact h e he
theorem covL {X : Fn} (hH : X.H = H0) (hn : X.n = 0) {s : Slots} {H : Heap} {n : Nat} (ks : List Nat) (sl : List (Nat × VV)) (hp : List (Nat × List VV)) (hnd : ks.Nodup)
    (hs : ∀ e ∈ sl, Conv (tau ks) H (fun k => k ∉ ks) ks.length (s e.1) e.2) (hh : HConv ks H hp) : Cov X (tau ks) s H n (slotsOf sl) (heapOf hp) ks.length (fun k => k ∉ ks) := by
  have hget : ∀ k cs, heapOf hp k = some cs → (k, cs) ∈ hp := by
    intro k cs
    clear hh
    induction hp with
    | nil => intro h; simp [heapOf] at h
    | cons e hp ih =>
      obtain ⟨i, v⟩ := e
      intro h
      unfold heapOf at h
      split at h
      · rename_i e; subst e; injection h with h; subst h; simp
      · exact List.mem_cons_of_mem _ (ih h)
  have hmem : ∀ k, k < ks.length → tau ks k ∈ ks := by
    intro k hk
    unfold tau
    rw [List.getD_eq_getElem?_getD, List.getElem?_eq_getElem hk]
    exact List.getElem_mem hk
  refine ⟨fun j => ?_, fun k cs' hk => ?_, by omega, fun j hj => by omega, fun i j hi hj e => ?_⟩
  · exact slotsOf_all (p := fun j v => Conv (tau ks) H (fun k => k ∉ ks) ks.length (s j) v) (fun j => .any _) sl hs j
  · obtain ⟨h1, cs, h2, h3, h4⟩ := hh _ (hget k cs' hk)
    exact ⟨h1, fun x => x (hmem k h1), cs, h2, h3, h4⟩
  · obtain ⟨ci, hci⟩ := Option.ne_none_iff_exists'.1 hi
    obtain ⟨cj, hcj⟩ := Option.ne_none_iff_exists'.1 hj
    have h1 := (hh _ (hget i ci hci)).1
    have h2 := (hh _ (hget j cj hcj)).1
    simp only at h1 h2
    unfold tau at e
    rw [List.getD_eq_getElem?_getD, List.getD_eq_getElem?_getD, List.getElem?_eq_getElem h1, List.getElem?_eq_getElem h2] at e
    exact (List.getElem_inj hnd).1 e
theorem roundV_of {X : Fn} {I : Nat → Slots → Heap → Nat → Prop} {μ : Nat} {s : Slots} {H : Heap} {n : Nat} (hH : X.H = H0) (hn : X.n = 0) (ks : List Nat) (sl : List (Nat × VV)) (hp : List (Nat × List VV)) (μ' : Nat)
    (hI : I μ' (slotsOf sl) (heapOf hp) ks.length) (hμ : μ' < μ) (hnd : ks.Nodup) (hlow : ∀ e ∈ sl, e.1 < X.m) (hs : ∀ e ∈ sl, Conv (tau ks) H (fun k => k ∉ ks) ks.length (s e.1) e.2) (hh : HConv ks H hp) : roundV X I μ s H n := fun hX =>
  have hc := covL hH hn ks sl hp hnd hs hh
  ⟨_, _, _, _, μ', hc.vw hX, hc.slots, slotsOf_low sl hlow, hμ, hI⟩
theorem Conv.toPt {τ : Nat → Nat} {H : Heap} {D : Nat → Prop} {n' j off : Nat} {x : VV} (e : x = .pt (τ j) off) (hk : ¬ D (τ j)) (h : j < n') : Conv τ H D n' x (.pt j off) := by rw [e]; exact .pt rfl hk h
theorem Conv.toRf {τ : Nat → Nat} {H : Heap} {D : Nat → Prop} {n' j off len z : Nat} {x : VV} (e : x = .rf (τ j) off len z) (hk : ¬ D (τ j)) (h : j < n') : Conv τ H D n' x (.rf j off len z) := by rw [e]; exact .rf rfl hk h
theorem Conv.same {τ : Nat → Nat} {H : Heap} {D : Nat → Prop} {n' : Nat} {x y : VV} (e : x = y) (h : y.clo = true) : Conv τ H D n' x y := by rw [e]; exact .clo h

/-! ### The rules of a walk (a set of rules that these words have no other use for) -/
theorem bne_not {α : Type} [BEq α] (a b : α) : (a != b) = !(a == b) := rfl
attribute [go_sem] dryV VV.dry sliceV bnd List.map_append nums8 appV srcV Nat.mul_one Nat.zero_add Nat.add_zero Nat.one_mul Nat.zero_mul List.take_length List.take_nil List.replicate_succ List.replicate_zero List.flatten_cons List.flatten_nil List.append_nil Disj.loads implies_true vstep_callv callvO_fn bne_not Bool.not_not vwp_skip vwp_ret vwp_exit vwp_reg vwp_drw behind_eq vwp_seq vwp_block vwp_cond vwp_loop vops_nil vops_cons_none vops_cons vstep_mov vstep_call vstep_pick vstep_new vstep_box vstep_build vstep_bslice vstep_load vstep_store vstep_nilc vstep_bin vstep_un vstep_cint vstep_cstr vstep_mks vstep_mkf vstep_slice vstep_sslice vstep_fad vstep_fld vstep_iad vstep_iada vstep_sidx vstep_ext vstep_app vstep_len vdr1_pick vdr1_new vdr1_box vdr1_build vdr1_bslice vdr1_load vdr1_store vdr1_nilc vdr1_bin vdr1_un vdr1_cint vdr1_cstr vdr1_mks vdr1_mkf vdr1_slice vdr1_sslice vdr1_fad vdr1_fld vdr1_iad vdr1_iada vdr1_sidx vdr1_ext vdr1_app vdr1_len vdr1_mov vdr_nil vdr_cons_none vdr_cons vdr1_call optV_some optW_some optD_some gdO_true gdO_false gdD_true gdD_false cdO_true cdO_false thenV_normal thenV_exit thenV_ret blockV_normal blockV_ret blockV_exit blockV_exit_ne ev_tmp ev_const ev_func put_none put_eq put_ne initS_get slotsOf_eq slotsOf_ne heapOf_eq heapOf_ne upd_eq upd_ne kill_ne gdV_gB gB_tt gB_ff gB_un vop vpure vbin vint vun rdV cellsV fillV VV.one Value.oneCell' rds wrs rfn ptn addLog okInc Option.map_some Option.bind_eq_bind Option.bind_some Option.pure_def not_false_eq_true ne_eq List.length_map decide_true decide_false Nat.le_refl Int.toNat_natCast lenV List.length_cons List.length_nil List.map_cons List.map_nil List.drop_zero List.drop_succ_cons List.drop_nil List.head?_cons List.take_zero List.take_succ_cons List.cons_append List.nil_append List.getElem?_cons_zero List.getElem?_cons_succ Option.getD_some Bool.false_eq_true List.all_cons List.all_nil Bool.and_self Bool.true_and Bool.false_and Bool.and_true Bool.and_false Bool.or_true Bool.true_or Bool.or_false Bool.false_or Bool.not_true Bool.not_false and_self and_true true_and
end Go.VM

/- VMT: arguments that can be read as data, as the machine's values; what a law's row asks of a function that only computes. -/
namespace Go.VM
open Go.RowKit Go.WideShapes Go.ChangeShapes

/-- The shape of data. -/
inductive Sh where
  | bool
  | str
  | int (k : IntKind)
  | sl (z : Nat) (e : Sh)
  | st (l : List Sh)
mutual
def Fits : Sh → List VV → Prop
  | .bool, xs => ∃ b, xs = [.sc (.bool b)]
  | .str, xs => ∃ s : ByteArray, xs = [.sc (.string s)] ∧ s.size ≤ maxLen
  | .int k, xs => ∃ n, xs = [.sc (.int k n)] ∧ (Lit.int k n).wf = true
  | .sl z e, xs => ∃ rows : List (List VV), xs = [.sl z rows] ∧ rows.length ≤ maxLen ∧ ∀ r ∈ rows, r.length = z ∧ Fits e r
  | .st l, xs => FitsL l xs
def FitsL : List Sh → List VV → Prop
  | [], xs => xs = []
  | s :: l, xs => ∃ ys zs, xs = ys ++ zs ∧ Fits s ys ∧ FitsL l zs
end
def shF (P : Program) (g : TypeId → Option Sh) (m : Nat) : Nat → List Field → Option (List Sh)
  | off, [] => if off = m then some [] else none
  | off, fd :: r => if fd.offset = off then match g fd.type, shF P g m (off + P.cellsOf fd.type) r with
    | some s, some l => some (s :: l)
    | _, _ => none
    else none
def shT (P : Program) : Nat → TypeId → Option Sh
  | 0, _ => none
  | f + 1, t => match P.underlying t with
    | some .bool => some .bool
    | some .string => some .str
    | some (.int k) => some (.int k)
    | some (.slice e) => (shT P f e).map (.sl (P.cellsOf e))
    | some (.struct fs) => (shF P (shT P f) (P.cellsOf t) 0 fs.toList).map .st
    | _ => none
def cx0 (w : World) : Cx := ⟨w, fun k => k, fun _ => False, fun _ => False, fun _ => []⟩

theorem choose_list {α : Type} {p : Nat → α → Prop} : ∀ (n : Nat), (∀ i, i < n → ∃ r, p i r) → ∃ l : List α, l.length = n ∧ ∀ i r, l[i]? = some r → p i r
  | 0, _ => ⟨[], rfl, fun i r h => by simp at h⟩
  | n + 1, h => by
    obtain ⟨l, hl, hp⟩ := choose_list n fun i hi => h i (by omega)
    obtain ⟨r, hr⟩ := h n (by omega)
    refine ⟨l ++ [r], by simp [hl], fun i x hx => ?_⟩
    by_cases hi : i < l.length
    · rw [List.getElem?_append_left hi] at hx
      exact hp i x hx
    · rw [List.getElem?_append_right (by omega)] at hx
      cases hk : i - l.length with
      | zero =>
        rw [hk] at hx; simp at hx; subst hx
        have : i = n := by omega
        rw [this]; exact hr
      | succ k => rw [hk] at hx; simp at hx

section
variable {H : Type} {enc : TypeId × Value → H} {P : Program} {w : World} {base : Nat} {spare : Nat → Bool} {held : Bool}

def Opens (w : World) (s : Sh) (cs : List Value) : Prop := ∃ xs, Fits s xs ∧ RepL (cx0 w) xs cs ∧ VV.cloL xs = true ∧ ∀ v ∈ cs, v.oneCell' = true
theorem cloL_app : ∀ (xs ys : List VV), VV.cloL (xs ++ ys) = (VV.cloL xs && VV.cloL ys)
  | [], ys => by simp [VV.cloL]
  | x :: xs, ys => by simp only [List.cons_append, VV.cloL, cloL_app xs ys, Bool.and_assoc]
theorem open_fields {g : TypeId → Option Sh} {n m : Nat} {cs : List Value} (hg : ∀ t s (c : List Value) x, g t = some s → DataW.trod enc P w base spare held n t c = some x → Opens w s c) (hm : cs.length = m) :
    ∀ (l : List Field) (off : Nat) (ls : List Sh), shF P g m off l = some ls → (∀ fd ∈ l, ∃ x, DataW.trod enc P w base spare held n fd.type ((cs.drop fd.offset).take (P.cellsOf fd.type)) = some x) →
      ∃ xs, FitsL ls xs ∧ RepL (cx0 w) xs (cs.drop off) ∧ VV.cloL xs = true ∧ ∀ v ∈ cs.drop off, v.oneCell' = true
  | [], off, ls, h, _ => by
    simp only [shF] at h
    split at h
    · rename_i e
      injection h with h; subst h
      have : cs.drop off = [] := List.drop_eq_nil_iff.2 (by omega)
      rw [this]
      exact ⟨[], by simp only [FitsL], RepL.nil, rfl, fun v hv => by simp at hv⟩
    · simp at h
  | fd :: l, off, ls, h, ht => by
    simp only [shF] at h
    split at h
    · rename_i e
      split at h
      · rename_i s ls' h1 h2
        injection h with h; subst h
        obtain ⟨x, hx⟩ := ht fd (by simp)
        obtain ⟨xs, a1, a2, a3, a4⟩ := hg _ _ _ _ h1 hx
        obtain ⟨ys, b1, b2, b3, b4⟩ := open_fields hg hm l _ _ h2 fun f hf => ht f (by simp [hf])
        rw [e] at a2 a4
        have hsp : cs.drop off = (cs.drop off).take (P.cellsOf fd.type) ++ cs.drop (off + P.cellsOf fd.type) := by
          rw [← List.drop_drop, List.take_append_drop]
        refine ⟨xs ++ ys, ?_, ?_, by rw [cloL_app, a3, b3]; rfl, fun v hv => ?_⟩
        · simp only [FitsL]; exact ⟨xs, ys, rfl, a1, b1⟩
        · rw [hsp]; exact a2.append b2
        · rw [hsp, List.mem_append] at hv
          exact hv.elim (a4 v) (b4 v)
      · simp at h
    · simp at h
theorem open_sh : ∀ (f : Nat) (t : TypeId) (s : Sh) (fuel : Nat) (cs : List Value) (x : DataW H × List MemPlace), shT P f t = some s → DataW.trod enc P w base spare held fuel t cs = some x → Opens w s cs
  | 0, t, s, fuel, cs, x, h, _ => by simp [shT] at h
  | f + 1, t, s, fuel, cs, x, h, hx => by
    simp only [shT] at h
    cases hu : P.underlying t with
    | none => rw [hu] at h; simp at h
    | some k =>
      rw [hu] at h
      cases k <;> simp only at h <;> try (simp at h; done)
      case bool =>
        injection h with h; subst h
        obtain ⟨b, rfl, _⟩ := DataW.trod_bool hu hx
        exact ⟨[.sc (.bool b)], by simp only [Fits]; exact ⟨b, rfl⟩, RepL.cons (by simp only [Rep]) RepL.nil, rfl, by simp [Value.oneCell']⟩
      case string =>
        injection h with h; subst h
        obtain ⟨b, rfl, _, hb⟩ := DataW.trod_string hu hx
        exact ⟨[.sc (.string b)], by simp only [Fits]; exact ⟨b, rfl, hb⟩, RepL.cons (by simp only [Rep]) RepL.nil, rfl, by simp [Value.oneCell']⟩
      case int k =>
        injection h with h; subst h
        obtain ⟨n, rfl, _, hn⟩ := DataW.trod_int hu hx
        exact ⟨[.sc (.int k n)], by simp only [Fits]; exact ⟨n, rfl, hn⟩, RepL.cons (by simp only [Rep]) RepL.nil, rfl, by simp [Value.oneCell']⟩
      case slice e =>
        obtain ⟨s', hs', rfl⟩ := Option.map_eq_some_iff.1 h
        rcases DataW.trod_slice hu hx with ⟨rfl, _⟩ | ⟨a, len, cap, elems, rest, n, _, rfl, _, _, hlc, hcm, hel, hget, _⟩
        · refine ⟨[.sl (P.cellsOf e) []], by simp only [Fits]; exact ⟨[], rfl, by simp, fun r hr => by simp at hr⟩, RepL.cons ?_ RepL.nil, rfl, by simp [Value.oneCell']⟩
          simp only [Rep]
          exact ⟨none, 0, rfl, Nat.le_refl _, .inl trivial⟩
        · have hrow : ∀ i, i < len → ∃ r, r.length = P.cellsOf e ∧ Fits s' r ∧ VV.cloL r = true ∧ RepC (cx0 w) r a (i * P.cellsOf e) := by
            intro i hi
            have h1 := hget i hi
            rw [List.getElem?_eq_getElem (by omega)] at h1
            obtain ⟨cs', hc, ht⟩ := Option.bind_eq_some_iff.1 h1
            obtain ⟨r, r1, r2, r3, r4⟩ := open_sh f e s' n cs' _ hs' ht
            obtain ⟨_, hlen, hcell⟩ := World.cells?_some hc
            refine ⟨r, by rw [← r2.length, hlen], r1, r3, ?_⟩
            rw [RepC.iff]
            intro j c hj
            obtain ⟨v, hv, hrep⟩ := (RepL.iff.1 r2).2 j c hj
            have hj' : j < P.cellsOf e := by rw [← hlen]; exact (List.getElem?_eq_some_iff.1 hv).1
            have h2 := hcell j hj'
            rw [add_add] at h2
            exact ⟨fun hf => hf, v, h2.trans hv, r4 v (List.mem_of_getElem? hv), hrep⟩
          obtain ⟨rows, hrl, hrows⟩ := choose_list len hrow
          refine ⟨[.sl (P.cellsOf e) rows], ?_, RepL.cons ?_ RepL.nil, rfl, by simp [Value.oneCell']⟩
          · simp only [Fits]
            refine ⟨rows, rfl, by omega, fun r hr => ?_⟩
            obtain ⟨i, hi⟩ := List.getElem?_of_mem hr
            exact ⟨(hrows i r hi).1, (hrows i r hi).2.1⟩
          · simp only [Rep]
            refine ⟨some a, cap, by rw [hrl], by omega, .inr ⟨a, rfl, ?_⟩⟩
            rw [RepR.iff]
            intro j r hj
            have := hrows j r hj
            rw [Nat.zero_add]
            exact ⟨this.1, this.2.2.2⟩
      case struct fs =>
        obtain ⟨ls, hls, rfl⟩ := Option.map_eq_some_iff.1 h
        obtain ⟨xs, n, _, _, hlen, hxl, hget⟩ := DataW.trod_struct hu hx
        obtain ⟨ys, h1, h2, h3, h4⟩ := open_fields (enc := enc) (base := base) (spare := spare) (held := held) (n := n) (cs := cs) (fun t s c x h1 h2 => open_sh f t s n c x h1 h2) hlen fs.toList 0 ls hls (fun fd hfd => by
          obtain ⟨i, hi⟩ := List.getElem?_of_mem hfd
          rw [Array.getElem?_toList] at hi
          have hi' : i < xs.length := by rw [hxl]; exact (Array.getElem?_eq_some_iff.1 hi).1
          exact ⟨_, (hget i fd hi).trans (List.getElem?_eq_getElem hi')⟩)
        rw [List.drop_zero] at h2 h4
        exact ⟨ys, by simp only [Fits]; exact h1, h2, h3, h4⟩

/-- An argument. -/
def argV : Sh → List VV → VV
  | .st _, xs => .agg xs
  | _, xs => xs.headD .any
theorem open_arg {r : Reach} {b0 f : Nat} {t : TypeId} {s : Sh} {v : Value} {d : DataW H} {ps : List MemPlace} (hs : shT P f t = some s) (hval : Value.okWide P w r b0 t v) (h : DataW.Trod enc P w base spare held t v d ps) :
    ∃ xs, Fits s xs ∧ Rep (cx0 w) (argV s xs) v ∧ (argV s xs).clo = true := by
  obtain ⟨fuel, hf⟩ := h
  obtain ⟨xs, h1, h2, h3, h4⟩ := open_sh f t s fuel _ _ hs hf
  cases f with
  | zero => simp [shT] at hs
  | succ f =>
    simp only [shT] at hs
    have one : ∀ x, xs = [x] → v.cells = #[v] → (∀ ys, argV s ys = ys.headD .any) → ∃ xs, Fits s xs ∧ Rep (cx0 w) (argV s xs) v ∧ (argV s xs).clo = true := by
      intro x hx hv ha
      refine ⟨xs, h1, ?_⟩
      rw [ha xs, hx]
      rw [hx, hv] at h2
      simp only [RepL] at h2
      obtain ⟨u, us, e, hr, _⟩ := h2
      simp only [List.cons.injEq] at e
      rw [e.1]
      rw [hx] at h3
      simp only [VV.cloL, Bool.and_true] at h3
      exact ⟨hr, h3⟩
    cases hu : P.underlying t with
    | none => rw [hu] at hs; simp at hs
    | some k =>
      rw [hu] at hs
      cases k <;> simp only at hs <;> try (simp at hs; done)
      case bool =>
        injection hs with hs; subst hs
        obtain ⟨b, rfl⟩ := okWide_bool hu hval
        have h1' := h1
        simp only [Fits] at h1'
        obtain ⟨b', hb⟩ := h1'
        exact one _ hb rfl fun _ => rfl
      case string =>
        injection hs with hs; subst hs
        obtain ⟨b, rfl⟩ := okWide_string hu hval
        have h1' := h1
        simp only [Fits] at h1'
        obtain ⟨b', hb, _⟩ := h1'
        exact one _ hb rfl fun _ => rfl
      case int k =>
        injection hs with hs; subst hs
        obtain ⟨b, rfl⟩ := okWide_int hu hval
        have h1' := h1
        simp only [Fits] at h1'
        obtain ⟨b', hb, _⟩ := h1'
        exact one _ hb rfl fun _ => rfl
      case slice e =>
        obtain ⟨s', hs', rfl⟩ := Option.map_eq_some_iff.1 hs
        obtain ⟨a, len, cap, rfl⟩ := okWide_slice hu hval
        have h1' := h1
        simp only [Fits] at h1'
        obtain ⟨b', hb, _⟩ := h1'
        exact one _ hb rfl fun _ => rfl
      case struct fs =>
        obtain ⟨ls, hls, rfl⟩ := Option.map_eq_some_iff.1 hs
        obtain ⟨cs, rfl, _⟩ := okWide_struct hu hval
        refine ⟨xs, h1, ?_, by simpa only [argV, VV.clo] using h3⟩
        simp only [argV, Rep]
        exact ⟨cs.toList, rfl, by simpa [Value.cells] using h2⟩

def shTs (P : Program) (f : Nat) : List TypeId → Option (List Sh)
  | [] => some []
  | t :: ts => match shT P f t, shTs P f ts with
    | some s, some l => some (s :: l)
    | _, _ => none
def FitsA : List Sh → List (List VV) → Prop
  | [], xss => xss = []
  | s :: l, xss => ∃ xs yss, xss = xs :: yss ∧ Fits s xs ∧ FitsA l yss
def argsV : List Sh → List (List VV) → List VV
  | s :: l, x :: xs => argV s x :: argsV l xs
  | _, _ => []
theorem open_args {r : Reach} {b0 f : Nat} : ∀ {ts : List TypeId} {vs : List Value} {ds : List (DataW H)} {ps : List MemPlace} {ss : List Sh}, DataW.TrodAll enc P w base spare held ts vs ds ps →
    (∀ (j : Nat) t v, ts[j]? = some t → vs[j]? = some v → Value.okWide P w r b0 t v) → shTs P f ts = some ss → ∃ xss, FitsA ss xss ∧ RepL (cx0 w) (argsV ss xss) vs
  | [], vs, ds, ps, ss, h, _, hs => by
    obtain ⟨rfl, _, _⟩ := trodAll_nil h
    simp only [shTs] at hs; injection hs with hs; subst hs
    exact ⟨[], by simp only [FitsA], by simp only [argsV]; exact RepL.nil⟩
  | t :: ts, vs, ds, ps, ss, h, hv, hs => by
    obtain ⟨v, vs', d, ds', p, q, rfl, rfl, rfl, h1, h2⟩ := trodAll_cons h
    simp only [shTs] at hs
    split at hs
    · rename_i s l e1 e2
      injection hs with hs; subst hs
      obtain ⟨xs, a1, a2, _⟩ := open_arg e1 (hv 0 t v rfl rfl) h1
      obtain ⟨xss, b1, b2⟩ := open_args h2 (fun j t v x y => hv (j + 1) t v (by simpa using x) (by simpa using y)) e2
      exact ⟨xs :: xss, by simp only [FitsA]; exact ⟨xs, xss, rfl, a1, b1⟩, by simp only [argsV]; exact RepL.cons a2 b2⟩
    · simp at hs

def rowed (P : Program) (ts : List TypeId) : Bool := ts.all fun t => P.readableRec t && decide (t < P.types.size)
theorem args_stay (hl : laidOutB P = true) {W W' : World} (hb : Below W.heap.size W W') : ∀ {ts : List TypeId} {vs : List Value} {ds : List (DataW H)} {ps : List MemPlace}, rowed P ts = true → DataW.TrodAll enc P W 0 (fun _ => true) true ts vs ds ps →
    DataW.TrodAll enc P W' 0 (fun b => decide (b < W.heap.size)) true ts vs ds ps
  | [], vs, ds, ps, _, h => by
    obtain ⟨rfl, rfl, rfl⟩ := trodAll_nil h
    exact trodAll_mk0
  | t :: ts, vs, ds, ps, hr, h => by
    obtain ⟨v, vs', d, ds', p, q, rfl, rfl, rfl, h1, h2⟩ := trodAll_cons h
    simp only [rowed, List.all_cons, Bool.and_eq_true, decide_eq_true_eq] at hr
    have hlt : ∀ x ∈ p, x.block < W.heap.size := by
      obtain ⟨n, hn⟩ := h1
      exact DataW.trod_lt n _ _ _ hn
    exact ⟨p, q, hb.trod hl hr.1.1 hr.1.2 h1 hlt, args_stay hl hb (by simpa [rowed] using hr.2) h2, rfl⟩
end

/-- A call of a function that only computes. -/
theorem PureC.calls {P : Program} {f : FuncId} {args : List VV} {u : Value} (h : PureC P f args (.sc u)) {W : World} {vs : List Value} (hr : RepL (cx0 W) args vs) :
    Calls P f vs.toArray W fun e W' => e = .returned u ∧ Below W.heap.size W W' := by
  obtain ⟨S, hsat, hS⟩ := h
  refine (hsat.calls args H0 0 (fun r _ _ => r = .sc u) (hS _ _ _ rfl) (cx0 W) vs (hok0 _) (fun b h => h.elim) (fun j h => h.elim) hr).mono ?_
  rintro e w' ⟨r', H', n', C', v, rfl, rfl, rfl, hrv, hs⟩
  simp only [Rep] at hrv
  subst hrv
  have hfr0 : Fr (fun _ => False) (cx0 W).w C'.w := fr_out hs
  have hfr : Fr (fun _ => False) W C'.w := hfr0
  exact ⟨rfl, hfr.os, hfr.tape, hfr.output, hfr.size, fun k hk => hfr.block k hk (fun h => h)⟩
end Go.VM

/- VMU: functions that look at objects of the caller's, turn them, or make new ones: their contracts. -/
namespace Go.VM
open Go.RowKit
theorem ppost_l {rs : List VRes} {l : List VV} {r : VV} {x : VExit} {s : Slots} {H : Heap} {n : Nat} (hx : x = .normal ∨ x = .ret) (h : resV s H rs = some l) (e : oneV l = r) (hc : r.clo = true) : PPost rs r x s H n :=
  ⟨hx, l, h, by rw [e]; exact .clo hc⟩

/-- A heap of some objects, by their places. -/
def heapL (hp : List (List VV)) : Heap := fun k => hp[k]?
theorem heapL_get {hp : List (List VV)} {k : Nat} : heapL hp k = hp[k]? := rfl
/-- The caller's names: ks for what is handed over, n and on for what is made. -/
def sig (ks : List Nat) (n i : Nat) : Nat := ks.getD i (n + (i - ks.length))
def putO (ks : List Nat) (n : Nat) (hp' : List (Nat × List VV)) : Nat → Heap → Heap
  | 0, H => H
  | i + 1, H => match heapOf hp' i with
    | some cs => upd (putO ks n hp' i H) (sig ks n i) (VV.renL (sig ks n) cs)
    | none => kill (putO ks n hp' i H) (sig ks n i)
/-- Function f, called with args in a heap of the objects hp, answers r; what is left is hp' (below m'). -/
def wfO (args : List VV) (hp : List (List VV)) (r : VV) (hp' : List (Nat × List VV)) (m' : Nat) : Bool :=
  VV.underL hp.length args && hp.all (VV.underL hp.length) && r.under m' && hp'.all (fun e => decide (e.1 < m') && VV.underL m' e.2)
def ObjC (P : Program) (f : FuncId) (args : List VV) (hp : List (List VV)) (r : VV) (hp' : List (Nat × List VV)) (m' : Nat) : Prop :=
  hp.length ≤ m' ∧ wfO args hp r hp' m' = true ∧ ∃ S, SatF P f S ∧ ∀ (ks : List Nat) (H : Heap) (n : Nat) (K : VV → Heap → Nat → Prop), ks.length = hp.length → ks.Nodup →
    (∀ i cs, hp[i]? = some cs → H (sig ks n i) = some (VV.renL (sig ks n) cs)) → K (r.ren (sig ks n)) (putO ks n hp' m' H) (n + (m' - hp.length)) → S (VV.renL (sig ks n) args) H n K

theorem sig_lt {ks : List Nat} {n i : Nat} (h : i < ks.length) : sig ks n i = ks[i] := by simp [sig, List.getD_eq_getElem?_getD, h]
theorem sig_ge {ks : List Nat} {n i : Nat} (h : ks.length ≤ i) : sig ks n i = n + (i - ks.length) := by simp [sig, List.getD_eq_getElem?_getD, h]
theorem sig_inj {ks : List Nat} {n : Nat} (hnd : ks.Nodup) (hlt : ∀ k ∈ ks, k < n) {i j : Nat} (e : sig ks n i = sig ks n j) : i = j := by
  by_cases hi : i < ks.length <;> by_cases hj : j < ks.length
  · rw [sig_lt hi, sig_lt hj] at e
    exact (List.getElem_inj hnd).1 e
  · rw [sig_lt hi, sig_ge (by omega)] at e
    have := hlt _ (List.getElem_mem hi); omega
  · rw [sig_ge (by omega), sig_lt hj] at e
    have := hlt _ (List.getElem_mem hj); omega
  · rw [sig_ge (by omega), sig_ge (by omega)] at e; omega
theorem putO_out {ks : List Nat} {n : Nat} {hp' : List (Nat × List VV)} {H : Heap} {j : Nat} : ∀ (m : Nat), (∀ i, i < m → sig ks n i ≠ j) → putO ks n hp' m H j = H j
  | 0, _ => rfl
  | m + 1, h => by
    have h1 := putO_out (hp' := hp') (H := H) m fun i hi => h i (by omega)
    have h2 := h m (by omega)
    simp only [putO]
    cases heapOf hp' m with
    | some cs => show upd _ _ _ j = _; unfold upd; rw [if_neg (fun e => h2 e.symm)]; exact h1
    | none => show kill _ _ j = _; unfold kill; rw [if_neg (fun e => h2 e.symm)]; exact h1
theorem putO_in {ks : List Nat} {n : Nat} {hp' : List (Nat × List VV)} {H : Heap} (hinj : ∀ i j, sig ks n i = sig ks n j → i = j) : ∀ (m i : Nat), i < m → putO ks n hp' m H (sig ks n i) = (heapOf hp' i).map (VV.renL (sig ks n))
  | 0, _, h => by omega
  | m + 1, i, h => by
    simp only [putO]
    by_cases e : i = m
    · subst e
      cases heapOf hp' i with
      | some cs => simp [upd]
      | none => simp [kill]
    · have hne : sig ks n i ≠ sig ks n m := fun x => e (hinj _ _ x)
      have ih := putO_in (hp' := hp') (H := H) hinj m i (by omega)
      cases heapOf hp' m with
      | some cs => show upd _ _ _ (sig ks n i) = _; unfold upd; rw [if_neg hne]; exact ih
      | none => show kill _ _ (sig ks n i) = _; unfold kill; rw [if_neg hne]; exact ih

theorem hok_cov {C : Cx} {τ : Nat → Nat} {H H' : Heap} {n' : Nat} {D : Nat → Prop} (hH : HOk C H) (heap : ∀ k cs', H' k = some cs' → k < n' ∧ ¬ D (τ k) ∧ ∃ cs, H (τ k) = some cs ∧ cs.length = cs'.length ∧ ∀ (j : Nat) (x y : VV), cs[j]? = some x → cs'[j]? = some y → Conv τ H D n' x y ∧ (x.dry = false → y = x))
    (inj : ∀ i j, H' i ≠ none → H' j ≠ none → τ i = τ j → i = j) : HOk (covC C τ H D n') H' := by
  have hlive : ∀ k, H' k ≠ none → k < n' ∧ ¬ D (τ k) ∧ H (τ k) ≠ none := fun k hk => by
    obtain ⟨cs', h'⟩ := Option.ne_none_iff_exists'.1 hk
    obtain ⟨h1, h2, cs, h3, _⟩ := heap k cs' h'
    exact ⟨h1, h2, by rw [h3]; simp⟩
  have hol : ∀ k, (covC C τ H D n').ol k = C.ol (τ k) := fun k => rfl
  refine ⟨?_, ?_, ?_, ?_, ?_⟩
  · intro k cs' hk
    obtain ⟨h1, _, cs, h3, _⟩ := heap k cs' hk
    exact ⟨hH.nm (τ k) cs h3, h1⟩
  · intro k hk b hb
    obtain ⟨h1, h2, h3⟩ := hlive k hk
    rw [hol] at hb
    refine ⟨hH.own (τ k) h3 b hb, ?_⟩
    rintro ⟨q, hq, hq2, e⟩
    by_cases hqk : q = τ k
    · exact h2 (hqk ▸ hq)
    · exact hH.sep q (τ k) hq2 h3 hqk b e hb
  · intro k cs' hk
    obtain ⟨h1, h2, cs, h3, hl, h4⟩ := heap k cs' hk
    obtain ⟨vs, T, fr, g1, g2, g3, g4, g5, g6⟩ := hH.obj (τ k) cs h3
    refine ⟨vs, T, fr, g1, g2, by rw [← hl]; exact g3, ?_, by rw [← hl]; exact g5, conv_DsL (C := C) (le_cov' C τ H D n') rfl hl h4 g6⟩
    rw [← hl]
    exact g4.of_cells hl fun j x y v a1 a2 a3 => (h4 j x y a1 a2).1.ok hH a3
  · intro k hk
    rw [hol]; exact hH.nodup (τ k) (hlive k hk).2.2
  · intro i j hi hj hij b hbi hbj
    rw [hol] at hbi hbj
    exact hH.sep (τ i) (τ j) (hlive i hi).2.2 (hlive j hj).2.2 (fun e => hij (inj i j hi hj e)) b hbi hbj

/-- The end of such a function. -/
def EndV (X : Fn) (H : Heap) (n : Nat) (l : List VV) (r : VV) (hp' : List (Nat × List VV)) (m' : Nat) : Prop := XOk X → ∃ R, Vw X R H n (heapOf hp') m' ∧ R (oneV l) r
def OPost (X : Fn) (rs : List VRes) (r : VV) (hp' : List (Nat × List VV)) (m' : Nat) : VPost := fun x s H n =>
  (x = .normal ∨ x = .ret) ∧ ∃ l, resV s H rs = some l ∧ EndV X H n l r hp' m'
theorem EndV.seen {X : Fn} {r : VV} {hp' : List (Nat × List VV)} {m' : Nat} {H H' : Heap} {n n' : Nat} {l : List VV} (hv : Vw X Eq H n H' n') (h : EndV X H' n' l r hp' m') : EndV X H n l r hp' m' := fun hX => by
  obtain ⟨R, h1, h2⟩ := h hX
  exact ⟨_, hv.trans h1, _, rfl, h2⟩
theorem covN {X : Fn} {s : Slots} {H : Heap} {n : Nat} (ks : List Nat) (sl : List (Nat × VV)) (hp : List (Nat × List VV)) (hm : X.n ≤ ks.length) (hk : ∀ j, j < X.n → tau ks j = j) (hnd : ks.Nodup)
    (hs : ∀ e ∈ sl, Conv (tau ks) H (fun k => k ∉ ks) ks.length (s e.1) e.2) (hh : HConv ks H hp) : Cov X (tau ks) s H n (slotsOf sl) (heapOf hp) ks.length (fun k => k ∉ ks) := by
  have hget : ∀ k cs, heapOf hp k = some cs → (k, cs) ∈ hp := by
    intro k cs
    clear hh
    induction hp with
    | nil => intro h; simp [heapOf] at h
    | cons e hp ih =>
      obtain ⟨i, v⟩ := e
      intro h
      unfold heapOf at h
      split at h
      · rename_i e; subst e; injection h with h; subst h; simp
      · exact List.mem_cons_of_mem _ (ih h)
  have hmem : ∀ k, k < ks.length → tau ks k ∈ ks := by
    intro k hk
    unfold tau
    rw [List.getD_eq_getElem?_getD, List.getElem?_eq_getElem hk]
    exact List.getElem_mem hk
  refine ⟨fun j => ?_, fun k cs' hk => ?_, hm, hk, fun i j hi hj e => ?_⟩
  · exact slotsOf_all (p := fun j v => Conv (tau ks) H (fun k => k ∉ ks) ks.length (s j) v) (fun j => .any _) sl hs j
  · obtain ⟨h1, cs, h2, h3, h4⟩ := hh _ (hget k cs' hk)
    exact ⟨h1, fun x => x (hmem k h1), cs, h2, h3, h4⟩
  · obtain ⟨ci, hci⟩ := Option.ne_none_iff_exists'.1 hi
    obtain ⟨cj, hcj⟩ := Option.ne_none_iff_exists'.1 hj
    have h1 := (hh _ (hget i ci hci)).1
    have h2 := (hh _ (hget j cj hcj)).1
    simp only at h1 h2
    unfold tau at e
    rw [List.getD_eq_getElem?_getD, List.getD_eq_getElem?_getD, List.getElem?_eq_getElem h1, List.getElem?_eq_getElem h2] at e
    exact (List.getElem_inj hnd).1 e
theorem roundN {X : Fn} {I : Nat → Slots → Heap → Nat → Prop} {μ : Nat} {s : Slots} {H : Heap} {n m : Nat} (hn : X.n = m) (ks : List Nat) (sl : List (Nat × VV)) (hp : List (Nat × List VV)) (μ' : Nat)
    (hI : I μ' (slotsOf sl) (heapOf hp) ks.length) (hμ : μ' < μ) (hm : m ≤ ks.length) (hk : ∀ j, j < m → tau ks j = j) (hnd : ks.Nodup) (hlow : ∀ e ∈ sl, e.1 < X.m)
    (hs : ∀ e ∈ sl, Conv (tau ks) H (fun k => k ∉ ks) ks.length (s e.1) e.2) (hh : HConv ks H hp) : roundV X I μ s H n := fun hX =>
  have hc := covN ks sl hp (hn ▸ hm) (hn ▸ hk) hnd hs hh
  ⟨_, _, _, _, μ', hc.vw hX, hc.slots, slotsOf_low sl hlow, hμ, hI⟩
theorem EndV.of {X : Fn} {H : Heap} {n m : Nat} {l : List VV} {r : VV} (hn : X.n = m) (ks : List Nat) (hp : List (Nat × List VV)) (hm : m ≤ ks.length) (hk : ∀ j, j < m → tau ks j = j) (hnd : ks.Nodup)
    (hr : Conv (tau ks) H (fun k => k ∉ ks) ks.length (oneV l) r) (hh : HConv ks H hp) : EndV X H n l r hp ks.length := fun hX =>
  have hc := covN (X := X) (s := fun _ => .any) (n := n) ks [] hp (hn ▸ hm) (hn ▸ hk) hnd (fun e h => by simp at h) hh
  ⟨_, hc.vw hX, hr⟩

theorem sig_at {ks : List Nat} {n m : Nat} {hp : List (List VV)} (hkl : ks.length = hp.length) {i : Nat} {C C' : Cx} {H0' H : Heap} (hH : HOk C H) (hN : ∀ j, C.N j → j < n)
    (hhp : ∀ i cs, hp[i]? = some cs → H (sig ks n i) = some (VV.renL (sig ks n) cs)) (hs : StpM (covC C (sig ks n) H (fun _ => False) hp.length) C' (heapL hp) H0' hp.length m) (hi : i < hp.length) :
    C.N (sig ks n i) ∧ C'.ρ i = C.ρ (sig ks n i) ∧ C'.N i ∧ H (sig ks n i) ≠ none := by
  have h1 := hhp i hp[i] (List.getElem?_eq_getElem hi)
  have h2 := hH.nm _ _ h1
  have h3 : (covC C (sig ks n) H (fun _ => False) hp.length).N i := ⟨h2, hi⟩
  exact ⟨h2, hs.le.ρ i h3, hs.le.N i h3, by rw [h1]; simp⟩

theorem objC_of {P : Program} {f : FuncId} {vc : VCode} {rs : List VRes} {args : List VV} {hp : List (List VV)} {r : VV} {hp' : List (Nat × List VV)} {mt m' : Nat} (hcomp : compFn P f = some (mt, vc, rs)) (hlen : args.length ≤ mt)
    (hm' : hp.length ≤ m') (hwf : wfO args hp r hp' m' = true)
    (h : ∀ X : Fn, X.P = P → X.m = mt → X.H = heapL hp → X.n = hp.length → XOk X → SWv X vc (OPost X rs r hp' m') (initS args) (heapL hp) hp.length) : ObjC P f args hp r hp' m' := by
  obtain ⟨fn, c, hf, hb, hnm, hm, hc, hr⟩ := compFn_of hcomp
  subst hm
  have hwf' := hwf
  simp only [wfO, Bool.and_eq_true] at hwf'
  obtain ⟨⟨⟨hua, huh⟩, hur⟩, hup⟩ := hwf'
  have hget' : ∀ k cs, heapOf hp' k = some cs → k < m' ∧ VV.underL m' cs = true := by
    intro k cs
    clear h hwf hur
    induction hp' with
    | nil => intro h; simp [heapOf] at h
    | cons e hp' ih =>
      obtain ⟨i, v⟩ := e
      simp only [List.all_cons, Bool.and_eq_true, decide_eq_true_eq] at hup
      intro h
      unfold heapOf at h
      split at h
      · rename_i e; subst e; injection h with h; subst h; exact hup.1
      · exact ih (by simpa using hup.2) h
  -- from the heap of these objects alone
  have key : SatF P f (fun as H n K => as = args ∧ H = heapL hp ∧ n = hp.length ∧ K r (heapOf hp') m') := by
    refine satF_of hf hb hnm hc hr fun as H n K hS => ?_
    obtain ⟨rfl, rfl, rfl, hK⟩ := hS
    refine ⟨hlen, fun C hX => ?_⟩
    have hw := h ⟨P, fn.ntmps, C, heapL hp, hp.length⟩ rfl rfl rfl rfl hX
    intro c' hc' C' a' hA'
    refine wp_mono (hw c' hc' C' a' hA') ?_
    rintro e a'' w' ⟨C'', s', H', n', v, hw', hA'', hv, hx, l, hl, hend⟩
    obtain ⟨R, h1, h2⟩ := hend hX
    exact ⟨C'', s', H', n', v, hw', hA'', hv, hx, l, hl, r, _, _, R, h1, h2, hK⟩
  refine ⟨hm', hwf, fun as H n K => ∃ ks : List Nat, as = VV.renL (sig ks n) args ∧ ks.length = hp.length ∧ ks.Nodup ∧ (∀ i cs, hp[i]? = some cs → H (sig ks n i) = some (VV.renL (sig ks n) cs)) ∧
    K (r.ren (sig ks n)) (putO ks n hp' m' H) (n + (m' - hp.length)), ⟨key.fn, ?_⟩, fun ks H n K h1 h2 h3 h4 => ⟨ks, rfl, h1, h2, h3, h4⟩⟩
  rintro as H n K ⟨ks, rfl, hkl, hnd, hhp, hK⟩ C vs hH hB hN hrep
  have hlt : ∀ k ∈ ks, k < n := fun k hk => by
    obtain ⟨i, hi, rfl⟩ := List.getElem_of_mem hk
    have h1 := hhp i hp[i] (List.getElem?_eq_getElem (by omega))
    rw [sig_lt hi] at h1
    exact hN _ (hH.nm _ _ h1)
  have hinj : ∀ i j, sig ks n i = sig ks n j → i = j := fun i j e => sig_inj hnd hlt e
  let C0 : Cx := covC C (sig ks n) H (fun _ => False) hp.length
  have hrep0 : RepL C0 args vs := by
    obtain ⟨h1, h2⟩ := conv_renL (σ := sig ks n) (H := H) args hua
    exact hrep.of_cells h1 fun j x y v a b c => (h2 j x y a b).ok hH c
  have hH0 : HOk C0 (heapL hp) := by
    refine hok_cov hH (fun k cs' hk => ?_) (fun i j _ _ e => hinj i j e)
    have hkl' : k < hp.length := (List.getElem?_eq_some_iff.1 hk).1
    refine ⟨hkl', fun h => h, _, hhp k cs' hk, ?_⟩
    have hu : VV.underL hp.length cs' = true := List.all_eq_true.1 huh cs' (List.mem_of_getElem? hk)
    obtain ⟨h1, h2⟩ := conv_renL (σ := sig ks n) (H := H) cs' hu
    refine ⟨h1, fun j x y a b => ⟨h2 j x y a b, fun hd => ?_⟩⟩
    rw [renL_map, List.getElem?_map, b] at a
    injection a with a; subst a
    rw [ren_dry] at hd
    cases y <;> simp [VV.dry] at hd <;> rfl
  have hC0F : ∀ b, C0.F b ↔ C.F b := fun b => ⟨fun h => h.1, fun h => ⟨h, fun ⟨_, hd, _⟩ => hd⟩⟩
  refine (key.calls args (heapL hp) hp.length (fun r' H' n' => r' = r ∧ H' = heapOf hp' ∧ n' = m') ⟨rfl, rfl, rfl, rfl, rfl, rfl⟩ C0 vs hH0 (fun b hb => hB b hb.1) (fun j hj => hj.2) hrep0).mono ?_
  rintro e w' ⟨r', H', n', C', v, ⟨rfl, rfl, rfl⟩, rfl, rfl, hrv, hs⟩
  have hat := fun i (hi : i < hp.length) => sig_at hkl (i := i) hH hN hhp hs hi
  -- the caller's context behind it
  let C1 : Cx := ⟨C'.w, fun j => if n ≤ j then C'.ρ (j - n + hp.length) else C.ρ j, C'.F, fun j => C.N j ∨ (n ≤ j ∧ j < n + (n' - hp.length) ∧ C'.N (j - n + hp.length)),
    fun j => if n ≤ j then C'.φ (j - n + hp.length) else if j ∈ ks then C'.φ (ks.idxOf j) else C.φ j⟩
  have hnew : ∀ i, hp.length ≤ i → n ≤ sig ks n i ∧ sig ks n i - n + hp.length = i := fun i hi => by rw [sig_ge (by omega)]; omega
  have hold : ∀ i (hi : i < hp.length), sig ks n i < n ∧ sig ks n i ∈ ks ∧ ks.idxOf (sig ks n i) = i := fun i hi => by
    have hik : i < ks.length := by omega
    rw [sig_lt hik]
    exact ⟨hlt _ (List.getElem_mem hik), List.getElem_mem hik, hnd.idxOf_getElem i hik⟩
  have hρ1 : ∀ i, (i < hp.length ∨ hp.length ≤ i) → C1.ρ (sig ks n i) = C'.ρ i := by
    intro i hi
    rcases hi with hi | hi
    · have h1 := hold i hi
      show (if n ≤ sig ks n i then _ else _) = _
      rw [if_neg (by omega)]
      exact (hat i hi).2.1.symm
    · have h1 := hnew i hi
      show (if n ≤ sig ks n i then _ else _) = _
      rw [if_pos h1.1, h1.2]
  have hφ1 : ∀ i, (i < hp.length ∨ hp.length ≤ i) → C1.φ (sig ks n i) = C'.φ i := by
    intro i hi
    rcases hi with hi | hi
    · have h1 := hold i hi
      show (if n ≤ sig ks n i then _ else if sig ks n i ∈ ks then _ else _) = _
      rw [if_neg (by omega), if_pos h1.2.1, h1.2.2]
    · have h1 := hnew i hi
      show (if n ≤ sig ks n i then _ else _) = _
      rw [if_pos h1.1, h1.2]
  have hol1 : ∀ i, C1.ol (sig ks n i) = C'.ol i := fun i => by unfold Cx.ol; rw [hρ1 i (by omega), hφ1 i (by omega)]
  have holo : ∀ j, j < n → j ∉ ks → C1.ol j = C.ol j := fun j hj hjk => by
    show (if n ≤ j then _ else _) :: (if n ≤ j then _ else if j ∈ ks then _ else _) = _
    rw [if_neg (by omega), if_neg (by omega), if_neg hjk]; rfl
  have hOwn0 : ∀ b, Own C0 (heapL hp) b → Own C H b := by
    rintro b ⟨i, hi, hb⟩
    have hil : i < hp.length := by
      obtain ⟨cs, hcs⟩ := Option.ne_none_iff_exists'.1 hi
      exact (List.getElem?_eq_some_iff.1 hcs).1
    exact ⟨sig ks n i, (hat i hil).2.2.2, hb⟩
  have hOwnN : ∀ b j, H j ≠ none → j ∉ ks → b ∈ C.ol j → ¬ Own C0 (heapL hp) b := by
    rintro b j hj hjk hbj ⟨i, hi, hb⟩
    have hil : i < hp.length := by
      obtain ⟨cs, hcs⟩ := Option.ne_none_iff_exists'.1 hi
      exact (List.getElem?_eq_some_iff.1 hcs).1
    exact hH.sep (sig ks n i) j (hat i hil).2.2.2 hj (fun e => hjk (e ▸ (hold i hil).2.1)) b hb hbj
  have hlive : ∀ j, putO ks n hp' n' H j ≠ none → (∃ i, i < n' ∧ j = sig ks n i ∧ heapOf hp' i ≠ none) ∨ (j < n ∧ j ∉ ks ∧ H j ≠ none ∧ putO ks n hp' n' H j = H j) := by
    intro j hj
    by_cases hex : ∃ i, i < n' ∧ sig ks n i = j
    · obtain ⟨i, hi, rfl⟩ := hex
      rw [putO_in hinj n' i hi] at hj
      exact .inl ⟨i, hi, rfl, fun e => hj (by rw [e]; rfl)⟩
    · have hout := putO_out (ks := ks) (n := n) (hp' := hp') (H := H) (j := j) n' (fun i hi e => hex ⟨i, hi, e⟩)
      rw [hout] at hj
      obtain ⟨cs, hcs⟩ := Option.ne_none_iff_exists'.1 hj
      refine .inr ⟨hN j (hH.nm j cs hcs), fun hjk => ?_, hj, hout⟩
      obtain ⟨i, hi, e⟩ := List.getElem_of_mem hjk
      exact hex ⟨i, by omega, by rw [sig_lt hi]; exact e⟩
  have hLcl : Le C'.cl C1.cl := ⟨fun _ h => h.elim, fun _ h => h.elim, fun _ _ h1 h2 => ⟨h2, h1⟩, fun _ _ h => h⟩
  have hren : ∀ k, k < n' → C'.N k → C1.N (sig ks n k) ∧ C1.ρ (sig ks n k) = C'.ρ k := by
    intro k hk hNk
    refine ⟨?_, hρ1 k (by omega)⟩
    by_cases hkm : k < hp.length
    · exact .inl (hat k hkm).1
    · have h1 := hnew k (by omega)
      refine .inr ⟨h1.1, ?_, by rw [h1.2]; exact hNk⟩
      rw [sig_ge (by omega)]; omega
  have hblk : ∀ j, H j ≠ none → j ∉ ks → ∀ q ∈ C.ol j, C'.w.heap[q]? = C.w.heap[q]? := fun j hj hjk q hq =>
    hs.fr.block q (hB q (hH.own j hj q hq)) (hOwnN q j hj hjk hq)
  have hLe : Le C C1 := by
    refine ⟨fun k hk => .inl hk, fun k hk => if_neg (by have := hN k hk; omega), fun a u h1 h2 => ?_, hs.le.room⟩
    have := hs.le.cell a u (fun x => h1 x.1) h2
    exact this
  refine ⟨_, _, _, C1, v, hK, rfl, rfl, hrv.ren hLcl hren r' hur, ⟨hLe, hs.fr.mono (fun b _ hb => hOwn0 b hb), ⟨?_, ?_, ?_, ?_, ?_⟩, hs.bd, by omega, ?_, ?_, ?_, ?_, ?_⟩⟩
  · intro j cs hj
    rcases hlive j (by rw [hj]; simp) with ⟨i, hi, rfl, h1⟩ | ⟨h1, h2, h3, h4⟩
    · obtain ⟨es, he⟩ := Option.ne_none_iff_exists'.1 h1
      exact (hren i hi (hs.hok.nm i es he)).1
    · rw [h4] at hj
      exact .inl (hH.nm j cs hj)
  · intro j hj b hb
    rcases hlive j hj with ⟨i, hi, rfl, h1⟩ | ⟨h1, h2, h3, h4⟩
    · rw [hol1] at hb
      exact hs.hok.own i h1 b hb
    · rw [holo j h1 h2] at hb
      rcases hs.mF b (hB b (hH.own j h3 b hb)) ((hC0F b).2 (hH.own j h3 b hb)) with h | h
      · exact h
      · exact absurd h (hOwnN b j h3 h2 hb)
  · intro j cs hj
    rcases hlive j (by rw [hj]; simp) with ⟨i, hi, rfl, h1⟩ | ⟨h1, h2, h3, h4⟩
    · obtain ⟨es, he⟩ := Option.ne_none_iff_exists'.1 h1
      rw [putO_in hinj n' i hi, he] at hj
      injection hj with hj; subst hj
      obtain ⟨ws, T, fr, g1, g2, g3, g4, g5, g6⟩ := hs.hok.obj i es he
      have hlen : (VV.renL (sig ks n) es).length = es.length := by rw [renL_map, List.length_map]
      rw [hρ1 i (by omega), hφ1 i (by omega)]
      refine ⟨ws, T, fr, g1, g2, by rw [hlen]; exact g3, by rw [hlen]; exact RepL.ren hLcl hren es (hget' i es he).2 g4, by rw [hlen]; exact g5, DsL.ren hLcl rfl es g6⟩
    · rw [h4] at hj
      have e1 : C1.ρ j = C.ρ j := if_neg (by omega)
      have e2 : C1.φ j = C.φ j := by show (if n ≤ j then _ else if j ∈ ks then _ else _) = _; rw [if_neg (by omega), if_neg h2]
      rw [e1, e2]
      exact (hH.obj j cs hj).mono hLe (fun q hq => hblk j h3 h2 q hq)
  · intro j hj
    rcases hlive j hj with ⟨i, hi, rfl, h1⟩ | ⟨h1, h2, h3, h4⟩
    · rw [hol1]; exact hs.hok.nodup i h1
    · rw [holo j h1 h2]; exact hH.nodup j h3
  · intro j j' hj hj' hne b hb hb'
    have mix : ∀ i (_ : heapOf hp' i ≠ none) q, H q ≠ none → q ∉ ks → b ∈ C'.ol i → b ∈ C.ol q → False := by
      intro i hi q hq hqk hbi hbq
      rcases hs.ow b ⟨i, hi, hbi⟩ with h | h
      · exact hOwnN b q hq hqk hbq h
      · have := hB b (hH.own q hq b hbq)
        have : C.w.heap.size ≤ b := h
        omega
    rcases hlive j hj with ⟨i, hi, rfl, h1⟩ | ⟨h1, h2, h3, h4⟩ <;> rcases hlive j' hj' with ⟨i', hi', rfl, k1⟩ | ⟨k1, k2, k3, k4⟩
    · rw [hol1] at hb hb'
      exact hs.hok.sep i i' h1 k1 (fun e => hne (by rw [e])) b hb hb'
    · rw [hol1] at hb; rw [holo j' k1 k2] at hb'
      exact mix i h1 j' k3 k2 hb hb'
    · rw [holo j h1 h2] at hb; rw [hol1] at hb'
      exact mix i' k1 j h3 h2 hb' hb
    · rw [holo j h1 h2] at hb; rw [holo j' k1 k2] at hb'
      exact hH.sep j j' h3 k3 hne b hb hb'
  · intro j hj
    rcases hj with hj | ⟨_, hj, _⟩
    · have := hN j hj; omega
    · exact hj
  · intro j hj
    rcases hj with hj | ⟨hj, _⟩
    · exact .inl hj
    · exact .inr hj
  · intro b hb hF
    rcases hs.mF b hb ((hC0F b).2 hF) with h | h
    · exact .inl h
    · exact .inr (hOwn0 b h)
  · intro b hb
    rcases hs.nF b hb with h | h
    · exact .inl h.1
    · exact .inr h
  · rintro b ⟨j, hj, hb⟩
    rcases hlive j hj with ⟨i, hi, rfl, h1⟩ | ⟨h1, h2, h3, h4⟩
    · rw [hol1] at hb
      rcases hs.ow b ⟨i, h1, hb⟩ with h | h
      · exact .inl (hOwn0 b h)
      · exact .inr h
    · rw [holo j h1 h2] at hb
      exact .inl ⟨j, h3, hb⟩

/-! ### Calls by such contracts -/
def HIs (ks : List Nat) (n : Nat) (H : Heap) : Nat → List (List VV) → Prop
  | _, [] => True
  | i, cs :: r => H (sig ks n i) = some (VV.renL (sig ks n) cs) ∧ HIs ks n H (i + 1) r
theorem HIs.get {ks : List Nat} {n : Nat} {H : Heap} : ∀ {hp : List (List VV)} {i : Nat}, HIs ks n H i hp → ∀ j cs, hp[j]? = some cs → H (sig ks n (i + j)) = some (VV.renL (sig ks n) cs)
  | [], i, _, j, cs, h => by simp at h
  | c :: hp, i, h, j, cs, hj => by
    simp only [HIs] at h
    cases j with
    | zero => simp at hj; subst hj; exact h.1
    | succ j => have := HIs.get h.2 j cs (by simpa using hj); rwa [show i + 1 + j = i + (j + 1) by omega] at this
theorem HIs_nil {ks : List Nat} {n i : Nat} {H : Heap} : HIs ks n H i [] := trivial
theorem HIs_cons {ks : List Nat} {n i : Nat} {H : Heap} {cs : List VV} {r : List (List VV)} (h : H (sig ks n i) = some (VV.renL (sig ks n) cs)) (k : HIs ks n H (i + 1) r) : HIs ks n H i (cs :: r) := ⟨h, k⟩
theorem callO.obj {P : Program} {K : Slots → Heap → Nat → Prop} {s : Slots} {d : Option Nat} {H : Heap} {n : Nat} {f : FuncId} {args args0 : List VV} (ks : List Nat) {hp : List (List VV)} {r : VV} {hp' : List (Nat × List VV)} {m' : Nat}
    (h : ObjC P f args0 hp r hp' m') (ha : VV.renL (sig ks n) args0 = args) (hkl : ks.length = hp.length) (hnd : ks.Nodup) (hH : HIs ks n H 0 hp)
    (hK : K (s.put d (r.ren (sig ks n))) (putO ks n hp' m' H) (n + (m' - hp.length))) : callO P f args K s d H n := by
  obtain ⟨_, _, S, h1, h2⟩ := h
  subst ha
  exact ⟨S, h1, h2 ks H n _ hkl hnd (fun i cs hi => by have := hH.get i cs hi; rwa [Nat.zero_add] at this) hK⟩
mutual
theorem ren_under {σ τ : Nat → Nat} {m : Nat} (h : ∀ i, i < m → σ i = τ i) : ∀ (x : VV), x.under m = true → x.ren σ = x.ren τ
  | .rf k _ _ _, hu => by simp only [VV.under, decide_eq_true_eq] at hu; simp only [VV.ren, h k hu]
  | .pt k _, hu => by simp only [VV.under, decide_eq_true_eq] at hu; simp only [VV.ren, h k hu]
  | .agg cs, hu => by simp only [VV.under] at hu; simp only [VV.ren, ren_underL h cs hu]
  | .tup cs, hu => by simp only [VV.under] at hu; simp only [VV.ren, ren_underL h cs hu]
  | .fn f cs, hu => by simp only [VV.under] at hu; simp only [VV.ren, ren_underL h cs hu]
  | .any, _ | .sc _, _ | .sl _ _, _ | .pd _, _ | .ow _ _, _ => by simp only [VV.ren]
theorem ren_underL {σ τ : Nat → Nat} {m : Nat} (h : ∀ i, i < m → σ i = τ i) : ∀ (cs : List VV), VV.underL m cs = true → VV.renL σ cs = VV.renL τ cs
  | [], _ => rfl
  | c :: cs, hu => by
    simp only [VV.underL, Bool.and_eq_true] at hu
    simp only [VV.renL, ren_under h c hu.1, ren_underL h cs hu.2]
end
theorem CallD.obj {P : Program} {f : FuncId} {args0 : List VV} {H : Heap} (ks : List Nat) {hp : List (List VV)} {r : VV} {hp' : List (Nat × List VV)} (h : ObjC P f args0 hp r hp' hp.length) (hkl : ks.length = hp.length) (hnd : ks.Nodup) (hH : HIs ks 0 H 0 hp) :
    ∀ m, CallD P f (VV.renL (sig ks 0) args0) H m ks (r.ren (sig ks 0)) (putO ks 0 hp' hp.length H) := by
  intro m0
  obtain ⟨_, hwf, S, h1, h2⟩ := h
  simp only [wfO, Bool.and_eq_true] at hwf
  obtain ⟨⟨⟨hua, huh⟩, hur⟩, hup⟩ := hwf
  have e : ∀ n i, i < hp.length → sig ks n i = sig ks 0 i := fun n i hi => by rw [sig_lt (by omega), sig_lt (by omega)]
  have hinj : ∀ n i j, i < hp.length → j < hp.length → sig ks n i = sig ks n j → i = j := fun n i j hi hj x => by
    rw [sig_lt (by omega), sig_lt (by omega)] at x
    exact (List.getElem_inj hnd).1 x
  have hget' : ∀ k cs, heapOf hp' k = some cs → VV.underL hp.length cs = true := by
    intro k cs
    clear h2
    induction hp' with
    | nil => intro h; simp [heapOf] at h
    | cons e hp' ih =>
      obtain ⟨i, v⟩ := e
      simp only [List.all_cons, Bool.and_eq_true, decide_eq_true_eq] at hup
      intro h
      unfold heapOf at h
      split at h
      · rename_i e; subst e; injection h with h; subst h; exact hup.1.2
      · exact ih (by simpa using hup.2) h
  -- what lies where
  have hin : ∀ n (H2 : Heap) (m i : Nat), m ≤ hp.length → i < m → putO ks n hp' m H2 (sig ks n i) = (heapOf hp' i).map (VV.renL (sig ks n)) := by
    intro n H2 m
    induction m with
    | zero => intro i _ h; omega
    | succ m ih =>
      intro i hm hi
      simp only [putO]
      by_cases e : i = m
      · subst e
        cases heapOf hp' i with
        | some cs => simp [upd]
        | none => simp [kill]
      · have hne : sig ks n i ≠ sig ks n m := fun x => e (hinj n _ _ (by omega) (by omega) x)
        have ih := ih i (by omega) (by omega)
        cases heapOf hp' m with
        | some cs => show upd _ _ _ (sig ks n i) = _; unfold upd; rw [if_neg hne]; exact ih
        | none => show kill _ _ (sig ks n i) = _; unfold kill; rw [if_neg hne]; exact ih
  have hmem : ∀ i, i < hp.length → sig ks 0 i ∈ ks := fun i hi => by rw [sig_lt (by omega)]; exact List.getElem_mem _
  have hof : ∀ j, j ∈ ks → ∃ i, i < hp.length ∧ sig ks 0 i = j := fun j hj => by
    obtain ⟨i, hi, rfl⟩ := List.getElem_of_mem hj
    exact ⟨i, by omega, sig_lt hi⟩
  have hout : ∀ n (H2 : Heap) j, j ∉ ks → putO ks n hp' hp.length H2 j = H2 j := fun n H2 j hj => putO_out _ fun i hi x => hj (by rw [← x, e n i hi]; exact hmem i hi)
  refine ⟨fun j hj => hout 0 H j hj, .inl fun H2 n hH2 => ?_⟩
  rw [ren_underL (fun i hi => (e n i hi).symm) args0 hua]
  refine ⟨S, h1, h2 ks H2 n _ hkl hnd (fun i cs hi => ?_) ⟨(ren_under (fun i hi => e n i hi) r hur), by omega, fun j => ?_⟩⟩
  · have hil : i < hp.length := (List.getElem?_eq_some_iff.1 hi).1
    have := hH.get i cs hi
    rw [Nat.zero_add] at this
    rw [e n i hil, hH2 _ (hmem i hil), this, ren_underL (fun i hi => (e n i hi).symm) cs (List.all_eq_true.1 huh cs (List.mem_of_getElem? hi))]
  · by_cases hj : j ∈ ks
    · rw [if_pos hj]
      obtain ⟨i, hi, rfl⟩ := hof j hj
      rw [hin 0 H _ i (Nat.le_refl _) hi, ← e n i hi, hin n H2 _ i (Nat.le_refl _) hi]
      cases hc : heapOf hp' i with
      | none => rfl
      | some cs => simp only [Option.map_some]; rw [ren_underL (fun i hi => e n i hi) cs (hget' i cs hc)]
    · rw [if_neg hj]; exact hout n H2 j hj
theorem callW.obj {P : Program} {n i : Nat} {log : Log} {inc : List Nat} {r : List (VOper × List Nat)} {K : Slots → Heap → Prop} {s : Slots} {d : Option Nat} {H : Heap} {f : FuncId} {args args0 : List VV} (ks : List Nat) {hp : List (List VV)} {v : VV} {hp' : List (Nat × List VV)} {m' : Nat}
    (h : ObjC P f args0 hp v hp' m') (hm : m' = hp.length) (ha : VV.renL (sig ks 0) args0 = args) (hkl : ks.length = hp.length) (hnd : ks.Nodup) (hH : HIs ks 0 H 0 hp) (ho : okInc log inc ks ks)
    (hK : vdr P n r (i + 1) (addLog i ks ks log) K (s.put d (v.ren (sig ks 0))) (putO ks 0 hp' m' H)) : callW P f args n i log inc r K s d H := by
  subst hm ha
  exact ⟨ks, _, _, CallD.obj ks h hkl hnd hH _, ho, hK⟩
/-- One object is made. -/
theorem CallD.obj1 {P : Program} {f : FuncId} {args0 : List VV} {H : Heap} (ks : List Nat) {hp : List (List VV)} {r : VV} {hp' : List (Nat × List VV)} (h : ObjC P f args0 hp r hp' (hp.length + 1)) (m : Nat) (hkl : ks.length = hp.length) (hnd : ks.Nodup) (hH : HIs ks m H 0 hp) (hm : H m = none) :
    CallD P f (VV.renL (sig ks m) args0) H m (m :: ks) (r.ren (sig ks m)) (putO ks m hp' (hp.length + 1) H) := by
  obtain ⟨_, hwf, S, h1, h2⟩ := h
  simp only [wfO, Bool.and_eq_true] at hwf
  obtain ⟨⟨⟨hua, huh⟩, hur⟩, hup⟩ := hwf
  have hHi : ∀ i (hi : i < hp.length), H (sig ks m i) = some (VV.renL (sig ks m) hp[i]) := fun i hi => by have := hH.get i _ (List.getElem?_eq_getElem hi); rwa [Nat.zero_add] at this
  have hsk : ∀ n i, i < hp.length → sig ks n i = sig ks m i := fun n i hi => by rw [sig_lt (by omega), sig_lt (by omega)]
  have hsm : ∀ n, sig ks n hp.length = n := fun n => by rw [sig_ge (by omega)]; omega
  have hmk : m ∉ ks := fun hmk => by
    obtain ⟨i, hi, e⟩ := List.getElem_of_mem hmk
    have := hHi i (by omega)
    rw [sig_lt hi, e, hm] at this
    simp at this
  have hks : ∀ j, j ∈ ks → ∃ i, i < hp.length ∧ sig ks m i = j := fun j hj => by
    obtain ⟨i, hi, rfl⟩ := List.getElem_of_mem hj
    exact ⟨i, by omega, sig_lt hi⟩
  have hne : ∀ i, i < hp.length → sig ks m i ≠ m := fun i hi e => by
    rw [sig_lt (by omega)] at e
    exact hmk (e ▸ List.getElem_mem _)
  have hinj : ∀ n, n ∉ ks → ∀ i j, i < hp.length + 1 → j < hp.length + 1 → sig ks n i = sig ks n j → i = j := fun n hn i j hi hj e => by
    by_cases hi' : i < hp.length <;> by_cases hj' : j < hp.length
    · rw [sig_lt (by omega), sig_lt (by omega)] at e
      exact (List.getElem_inj hnd).1 e
    · rw [sig_lt (by omega), sig_ge (by omega)] at e
      exact absurd (show n ∈ ks by have : n + (j - ks.length) = n := by omega
                                   rw [this] at e; exact e ▸ List.getElem_mem _) hn
    · rw [sig_ge (by omega), sig_lt (by omega)] at e
      exact absurd (show n ∈ ks by have : n + (i - ks.length) = n := by omega
                                   rw [this] at e; exact e ▸ List.getElem_mem _) hn
    · omega
  have hin : ∀ n, n ∉ ks → ∀ (H2 : Heap) (q i : Nat), q ≤ hp.length + 1 → i < q → putO ks n hp' q H2 (sig ks n i) = (heapOf hp' i).map (VV.renL (sig ks n)) := by
    intro n hn H2 q
    induction q with
    | zero => intro i _ h; omega
    | succ q ih =>
      intro i hq hi
      simp only [putO]
      by_cases e : i = q
      · subst e
        cases heapOf hp' i with
        | some cs => simp [upd]
        | none => simp [kill]
      · have hne : sig ks n i ≠ sig ks n q := fun x => e (hinj n hn _ _ (by omega) (by omega) x)
        have ih := ih i (by omega) (by omega)
        cases heapOf hp' q with
        | some cs => show upd _ _ _ (sig ks n i) = _; unfold upd; rw [if_neg hne]; exact ih
        | none => show kill _ _ (sig ks n i) = _; unfold kill; rw [if_neg hne]; exact ih
  have hout : ∀ n (H2 : Heap) j, j ∉ ks → j ≠ n → putO ks n hp' (hp.length + 1) H2 j = H2 j := fun n H2 j hj hjn => putO_out _ fun i hi x => by
    by_cases hi' : i < hp.length
    · rw [sig_lt (by omega)] at x; exact hj (x ▸ List.getElem_mem _)
    · have : i = hp.length := by omega
      rw [this, hsm n] at x; exact hjn x.symm
  have hget' : ∀ k cs, heapOf hp' k = some cs → VV.underL (hp.length + 1) cs = true := by
    intro k cs
    clear h2 hin hout
    induction hp' with
    | nil => intro h; simp [heapOf] at h
    | cons e hp' ih =>
      obtain ⟨i, v⟩ := e
      simp only [List.all_cons, Bool.and_eq_true, decide_eq_true_eq] at hup
      intro h
      unfold heapOf at h
      split at h
      · rename_i e; subst e; injection h with h; subst h; exact hup.1.2
      · exact ih (by simpa using hup.2) h
  have hcon : ∀ k, k < hp.length + 1 → (m :: ks).contains (sig ks m k) = true := fun k hk => by
    by_cases hk' : k < hp.length
    · rw [sig_lt (by omega)]; simp
    · have : k = hp.length := by omega
      rw [this, hsm m]; simp
  have hmv : ∀ n k, k < hp.length + 1 → mv m n (sig ks m k) = sig ks n k := fun n k hk => by
    by_cases hk' : k < hp.length
    · unfold mv; rw [if_neg (hne k hk'), hsk n k hk']
    · have : k = hp.length := by omega
      rw [this, hsm m, hsm n]; exact if_pos rfl
  refine ⟨fun j hj => ?_, .inr ⟨by simp, hm, fun j hj hjm => ?_, ren_nms hcon r hur, fun j cs hj hcs => ?_, fun H2 n hH2 hmn hkn => ?_⟩⟩
  · simp only [List.mem_cons, not_or] at hj
    exact hout m H j hj.2 hj.1
  · simp only [List.mem_cons] at hj
    obtain ⟨i, hi, rfl⟩ := hks j (hj.resolve_left hjm)
    rw [hHi i hi]; simp
  · have : ∃ i, i < hp.length + 1 ∧ sig ks m i = j := by
      rcases List.mem_cons.1 hj with rfl | hj
      · exact ⟨hp.length, by omega, hsm _⟩
      · obtain ⟨i, hi, e⟩ := hks j hj
        exact ⟨i, by omega, e⟩
    obtain ⟨i, hi, rfl⟩ := this
    rw [hin m hmk H _ i (Nat.le_refl _) hi] at hcs
    obtain ⟨cs0, h0, rfl⟩ := Option.map_eq_some_iff.1 hcs
    exact renL_nms hcon cs0 (hget' i cs0 h0)
  · have hnk : n ∉ ks := fun hnk => by have := hkn n (by simp [hnk]); omega
    rw [ren_underL (fun i hi => (hsk n i hi).symm) args0 hua]
    refine ⟨S, h1, h2 ks H2 n _ hkl hnd (fun i cs hi => ?_) ⟨(ren_ren (hmv n) r hur).symm, by omega, fun j => ?_⟩⟩
    · have hil : i < hp.length := (List.getElem?_eq_some_iff.1 hi).1
      have hx : hp[i] = cs := (List.getElem?_eq_some_iff.1 hi).2
      have h3 := hHi i hil
      rw [hsk n i hil, hH2 _ (by rw [sig_lt (by omega)]; simp), h3, hx, ren_underL (fun q hq => (hsk n q hq).symm) cs (List.all_eq_true.1 huh cs (List.mem_of_getElem? hi))]
    · have hren : ∀ i, i < hp.length + 1 → (heapOf hp' i).map (VV.renL (sig ks n)) = ((heapOf hp' i).map (VV.renL (sig ks m))).map (VV.renL (mv m n)) := fun i hi => by
        cases hc : heapOf hp' i with
        | none => rfl
        | some cs => simp only [Option.map_some]; rw [renL_renL (hmv n) cs (hget' i cs hc)]
      by_cases hjn : j = n
      · subst hjn
        rw [if_pos rfl]
        have e1 := hin j hnk H2 _ hp.length (Nat.le_refl _) (by omega)
        have e2 := hin m hmk H _ hp.length (Nat.le_refl _) (by omega)
        rw [hsm j] at e1; rw [hsm m] at e2
        rw [e1, e2, hren _ (by omega)]
      · rw [if_neg hjn]
        by_cases hjm : j = m
        · subst hjm
          rw [if_pos rfl, hout n H2 j hmk hjn, hH2 j (by simp), hm]
        · rw [if_neg hjm]
          by_cases hjk : j ∈ ks
          · rw [if_pos (by simp [hjk])]
            obtain ⟨i, hi, rfl⟩ := hks j hjk
            rw [hin m hmk H _ i (Nat.le_refl _) (by omega), ← hsk n i hi, hin n hnk H2 _ i (Nat.le_refl _) (by omega), hren i (by omega)]
          · rw [if_neg (by simp [hjk, hjm]), hout n H2 j hjk hjn]
theorem callW.obj1 {P : Program} {n i : Nat} {log : Log} {inc : List Nat} {r : List (VOper × List Nat)} {K : Slots → Heap → Prop} {s : Slots} {d : Option Nat} {H : Heap} {f : FuncId} {args args0 : List VV} (ks : List Nat) {hp : List (List VV)} {v : VV} {hp' : List (Nat × List VV)} {m' : Nat}
    (h : ObjC P f args0 hp v hp' m') (hm : m' = hp.length + 1) (ha : VV.renL (sig ks (n + i)) args0 = args) (hkl : ks.length = hp.length) (hnd : ks.Nodup) (hH : HIs ks (n + i) H 0 hp) (hf : H (n + i) = none) (ho : okInc log inc ((n + i) :: ks) ((n + i) :: ks))
    (hK : vdr P n r (i + 1) (addLog i ((n + i) :: ks) ((n + i) :: ks) log) K (s.put d (v.ren (sig ks (n + i)))) (putO ks (n + i) hp' m' H)) : callW P f args n i log inc r K s d H := by
  subst hm ha
  exact ⟨(n + i) :: ks, _, _, CallD.obj1 ks h _ hkl hnd hH hf, ho, hK⟩
theorem sig_def {ks : List Nat} {n i : Nat} : sig ks n i = ks.getD i (n + (i - ks.length)) := rfl
theorem putO_zero {ks : List Nat} {n : Nat} {hp' : List (Nat × List VV)} {H : Heap} : putO ks n hp' 0 H = H := rfl
def setO (H : Heap) (k : Nat) (σ : Nat → Nat) : Option (List VV) → Heap
  | some cs => upd H k (VV.renL σ cs)
  | none => kill H k
theorem setO_some {H : Heap} {k : Nat} {σ : Nat → Nat} {cs : List VV} : setO H k σ (some cs) = upd H k (VV.renL σ cs) := rfl
theorem setO_none {H : Heap} {k : Nat} {σ : Nat → Nat} : setO H k σ none = kill H k := rfl
theorem putO_succ {ks : List Nat} {n : Nat} {hp' : List (Nat × List VV)} {H : Heap} {i : Nat} : putO ks n hp' (i + 1) H = setO (putO ks n hp' i H) (sig ks n i) (sig ks n) (heapOf hp' i) := by
  cases h : heapOf hp' i with
  | none => simp only [putO, h, setO_none]
  | some cs => simp only [putO, h, setO_some]
theorem putO_one {ks : List Nat} {n : Nat} {hp' : List (Nat × List VV)} {H : Heap} : putO ks n hp' 1 H = setO H (sig ks n 0) (sig ks n) (heapOf hp' 0) := putO_succ
theorem putO_two {ks : List Nat} {n : Nat} {hp' : List (Nat × List VV)} {H : Heap} : putO ks n hp' 2 H = setO (setO H (sig ks n 0) (sig ks n) (heapOf hp' 0)) (sig ks n 1) (sig ks n) (heapOf hp' 1) := by rw [putO_succ, putO_one]
theorem putO_three {ks : List Nat} {n : Nat} {hp' : List (Nat × List VV)} {H : Heap} : putO ks n hp' 3 H = setO (setO (setO H (sig ks n 0) (sig ks n) (heapOf hp' 0)) (sig ks n 1) (sig ks n) (heapOf hp' 1)) (sig ks n 2) (sig ks n) (heapOf hp' 2) := by rw [putO_succ, putO_two]
theorem putO_four {ks : List Nat} {n : Nat} {hp' : List (Nat × List VV)} {H : Heap} : putO ks n hp' 4 H = setO (setO (setO (setO H (sig ks n 0) (sig ks n) (heapOf hp' 0)) (sig ks n 1) (sig ks n) (heapOf hp' 1)) (sig ks n 2) (sig ks n) (heapOf hp' 2)) (sig ks n 3) (sig ks n) (heapOf hp' 3) := by rw [putO_succ, putO_three]
theorem heapOf_nil {k : Nat} : heapOf [] k = none := rfl
attribute [go_sem] VV.ren VV.renL sig_def putO_zero putO_one putO_two putO_three putO_four setO_some setO_none heapOf_nil heapL_get List.getD_cons_zero List.getD_cons_succ List.getD_nil
/-! ### Names that are looked up -/
def nm : VV → Nat
  | .rf k _ _ _ => k
  | .pt k _ => k
  | _ => 0
theorem nm_rf {k off len z : Nat} : nm (.rf k off len z) = k := rfl
theorem nm_pt {k off : Nat} : nm (.pt k off) = k := rfl
def Rk (_ : List Nat) (X : Fn) (I : Nat → Slots → Heap → Nat → Prop) (μ : Nat) (s : Slots) (H : Heap) (n : Nat) : Prop := roundV X I μ s H n
theorem roundE {X : Fn} {I : Nat → Slots → Heap → Nat → Prop} {μ : Nat} {s : Slots} {H : Heap} {n : Nat} (sel : Slots → List Nat) {ks : List Nat} (_ : sel s = ks) (h : Rk ks X I μ s H n) : roundV X I μ s H n := h
theorem rk_of {X : Fn} {I : Nat → Slots → Heap → Nat → Prop} {μ : Nat} {s : Slots} {H : Heap} {n m : Nat} {ks : List Nat} (hn : X.n = m) (sl : List (Nat × VV)) (hp : List (Nat × List VV)) (μ' : Nat)
    (hI : I μ' (slotsOf sl) (heapOf hp) ks.length) (hμ : μ' < μ) (hm : m ≤ ks.length) (hk : ∀ j, j < m → tau ks j = j) (hnd : ks.Nodup) (hlow : ∀ e ∈ sl, e.1 < X.m)
    (hs : ∀ e ∈ sl, Conv (tau ks) H (fun k => k ∉ ks) ks.length (s e.1) e.2) (hh : HConv ks H hp) : Rk ks X I μ s H n := roundN hn ks sl hp μ' hI hμ hm hk hnd hlow hs hh
def Ek (_ : List Nat) (X : Fn) (H : Heap) (n : Nat) (l : List VV) (r : VV) (hp' : List (Nat × List VV)) (m' : Nat) : Prop := EndV X H n l r hp' m'
theorem endE {X : Fn} {H : Heap} {n : Nat} {l : List VV} {r : VV} {hp' : List (Nat × List VV)} {m' : Nat} (sel : List VV → List Nat) {ks : List Nat} (_ : sel l = ks) (h : Ek ks X H n l r hp' m') : EndV X H n l r hp' m' := h
theorem ek_of {X : Fn} {H : Heap} {n m : Nat} {l : List VV} {r : VV} {ks : List Nat} {hp : List (Nat × List VV)} (hn : X.n = m) (hm : m ≤ ks.length) (hk : ∀ j, j < m → tau ks j = j) (hnd : ks.Nodup)
    (hr : Conv (tau ks) H (fun k => k ∉ ks) ks.length (oneV l) r) (hh : HConv ks H hp) : Ek ks X H n l r hp ks.length := EndV.of hn ks hp hm hk hnd hr hh
end Go.VM

/- VMW: what lies inside an object is laid down as unchanging. -/
namespace Go.VM
theorem frz_dry (x : VV) : x.frz.dry = true := by cases x <;> rfl
theorem frzL_dry : ∀ (cs : List VV), (VV.frzL cs).all VV.dry = true
  | [] => rfl
  | c :: cs => by simp only [VV.frzL, List.all_cons, frz_dry, frzL_dry cs, Bool.and_self]
theorem frzL_rep {C C' : Cx} (hL : Le C.cl C'.cl) (hw : C'.w = C.w) : ∀ (xs : List VV) {us : List Value} {S : List Nat}, (∀ b ∈ S, ¬ C'.F b) → RepL C.cl xs (us.take xs.length) → DsL C xs us S → RepL C'.cl (VV.frzL xs) (us.take xs.length)
  | [], us, S, _, h, _ => by simpa only [VV.frzL, RepL, List.length_nil, List.take_zero] using h
  | x :: xs, us, S, hF, h, hd => by
    simp only [DsL] at hd
    obtain ⟨v, vs, S1, S2, rfl, rfl, h1, h2⟩ := hd
    simp only [List.length_cons, List.take_succ_cons, RepL] at h
    obtain ⟨v', vs', e, g1, g2⟩ := h
    injection e with e1 e2; subst e1 e2
    simp only [VV.frzL, List.length_cons, List.take_succ_cons, RepL]
    exact ⟨v, _, rfl, frz_ok hL hw x (fun b hb => hF b (by simp [hb])) g1 h1, frzL_rep hL hw xs (fun b hb => hF b (by simp [hb])) g2 h2⟩
theorem Vw.melt {X : Fn} {H : Heap} {n k : Nat} {cs : List VV} (hk : H k = some cs) (hcl : VV.cloL cs = true) : Vw X Eq H n (upd H k (VV.frzL cs)) n := by
  intro C hS
  have hH := hS.hok
  have hkn : H k ≠ none := by rw [hk]; simp
  obtain ⟨vs, T, fr, g1, g2, g3, g4, g5, g6⟩ := hH.obj k cs hk
  let C' : Cx := ⟨C.w, C.ρ, fun b => C.F b ∧ b ∉ C.φ k, C.N, fun i => if i = k then [] else C.φ i⟩
  have hL : Le C C' := ⟨fun _ h => h, fun _ _ => rfl, fun _ _ h1 h2 => ⟨h2, fun x => h1 x.1⟩, fun _ _ h => h⟩
  have holk : C'.ol k = [C.ρ k] := by show C.ρ k :: (if k = k then _ else _) = _; rw [if_pos rfl]
  have holn : ∀ i, i ≠ k → C'.ol i = C.ol i := fun i hi => by show C.ρ i :: (if i = k then _ else _) = _; rw [if_neg hi]; rfl
  have live : ∀ i, upd H k (VV.frzL cs) i ≠ none → H i ≠ none := fun i hi => by
    unfold upd at hi
    split at hi
    · rename_i e; rw [e]; exact hkn
    · exact hi
  have hnd := hH.nodup k hkn
  unfold Cx.ol at hnd
  have hsub : ∀ i, ∀ b ∈ C'.ol i, b ∈ C.ol i := fun i b hb => by
    by_cases e : i = k
    · rw [e, holk] at hb; rw [e]; simp only [List.mem_singleton] at hb; rw [hb]; exact ol_self C k
    · rwa [holn i e] at hb
  have hnot : ∀ i, H i ≠ none → ∀ b ∈ C'.ol i, b ∉ C.φ k := fun i hi b hb hbk => by
    by_cases e : i = k
    · rw [e, holk] at hb; simp only [List.mem_singleton] at hb
      exact (List.nodup_cons.1 hnd).1 (hb ▸ hbk)
    · rw [holn i e] at hb
      exact hH.sep i k hi hkn e b hb (by simp [Cx.ol, hbk])
  refine ⟨C', rfl, ⟨hS.le.trans hL, hS.fr, ⟨?_, ?_, ?_, ?_, ?_⟩, fun b hb => hS.bd b hb.1, hS.nn, hS.nN, hS.nO, ?_, fun b hb => hS.nF b hb.1, ?_⟩, fun x y v e hr => e ▸ hr.mono hL⟩
  · intro i es hi
    obtain ⟨es', h'⟩ := Option.ne_none_iff_exists'.1 (live i (by rw [hi]; simp))
    exact hH.nm i es' h'
  · intro i hi b hb
    exact ⟨hH.own i (live i hi) b (hsub i b hb), hnot i (live i hi) b hb⟩
  · intro i es hi
    unfold upd at hi
    split at hi
    · rename_i e; subst e
      injection hi with hi; subst hi
      have e2 : C'.φ i = [] := if_pos rfl
      rw [e2]
      have hlen := frzL_length cs
      refine ⟨vs, T, fr, g1, g2, by rw [hlen]; exact g3, ?_, by rw [hlen]; exact g5, DsL.dry (frzL_dry cs) (by rw [hlen]; simpa using g3)⟩
      rw [hlen]
      exact RepL.mono (cl_le C') _ (frzL_rep (C := C) (C' := C') ⟨fun _ h => h, fun _ _ => rfl, fun _ _ h1 h2 => ⟨h2, fun x => h1 x.1⟩, fun _ _ h => h⟩ rfl cs (fun b hb hF => hF.2 hb) (RepL.cl _ g4 hcl) g6)
    · rename_i e
      have e2 : C'.φ i = C.φ i := if_neg e
      rw [e2]
      exact (hH.obj i es hi).mono hL (fun _ _ => rfl)
  · intro i hi
    by_cases e : i = k
    · rw [e, holk]; simp
    · rw [holn i e]; exact hH.nodup i (live i hi)
  · intro i j hi hj hij b hb hb'
    exact hH.sep i j (live i hi) (live j hj) hij b (hsub i b hb) (hsub j b hb')
  · intro b hb hF
    rcases hS.mF b hb hF with h | h
    · by_cases hbk : b ∈ C.φ k
      · rcases hS.ow b ⟨k, hkn, by simp [Cx.ol, hbk]⟩ with h1 | h1
        · exact .inr h1
        · omega
      · exact .inl ⟨h, hbk⟩
    · exact .inr h
  · rintro b ⟨i, hi, hb⟩
    exact hS.ow b ⟨i, live i hi, hsub i b hb⟩
theorem frzL_app : ∀ (xs ys : List VV), VV.frzL (xs ++ ys) = VV.frzL xs ++ VV.frzL ys
  | [], _ => rfl
  | x :: xs, ys => by simp only [List.cons_append, VV.frzL, frzL_app xs ys]
theorem frzR_map {α : Type} {f g : α → List VV} (h : ∀ x, VV.frzL (f x) = g x) : ∀ (l : List α), VV.frzR (l.map f) = l.map g
  | [] => rfl
  | x :: l => by simp only [List.map_cons, VV.frzR, h, frzR_map h l]
theorem frzL_flat {α : Type} {f g : α → List VV} (h : ∀ x, VV.frzL (f x) = g x) : ∀ (l : List α), VV.frzL (l.map f).flatten = (l.map g).flatten
  | [] => rfl
  | x :: l => by simp only [List.map_cons, List.flatten_cons, frzL_app, h, frzL_flat h l]
/-- A round that begins another one and changes nothing. -/
theorem round_id {X : Fn} {I : Nat → Slots → Heap → Nat → Prop} {μ : Nat} {s : Slots} {H : Heap} {n : Nat} (sl : List (Nat × VV)) (μ' : Nat) (hI : I μ' (slotsOf sl) H n) (hμ : μ' < μ) (hlow : ∀ e ∈ sl, e.1 < X.m)
    (hs : ∀ e ∈ sl, s e.1 = e.2) : roundV X I μ s H n := fun _ =>
  ⟨fun x y => y = x ∨ y = .any, _, _, _, μ', fun C h => ⟨C, rfl, h, fun x y v e hr => by rcases e with rfl | rfl; exact hr; simp only [Rep]⟩, slotsOf_all (p := fun j v => v = s j ∨ v = .any) (fun j => .inr rfl) sl (fun e he => .inl (hs e he).symm), slotsOf_low sl hlow, hμ, hI⟩
mutual
theorem VV.ren_id : ∀ (x : VV), x.ren (fun j => j) = x
  | .rf k off len z | .pt k off => by simp only [VV.ren]
  | .agg cs => by simp only [VV.ren, VV.renL_id cs]
  | .tup cs => by simp only [VV.ren, VV.renL_id cs]
  | .fn f cs => by simp only [VV.ren, VV.renL_id cs]
  | .any | .sc _ | .sl _ _ | .pd _ | .ow _ _ => by simp only [VV.ren]
theorem VV.renL_id : ∀ (cs : List VV), VV.renL (fun j => j) cs = cs
  | [] => rfl
  | c :: cs => by simp only [VV.renL, VV.ren_id c, VV.renL_id cs]
end
theorem conv_id {H : Heap} {m : Nat} {x : VV} (h : x.under m = true) : Conv (fun j => j) H (fun _ => False) m x x := by
  have := conv_ren (σ := fun j => j) (H := H) x h
  rwa [VV.ren_id] at this
theorem underL_iff {m : Nat} : ∀ {cs : List VV}, VV.underL m cs = true ↔ ∀ x ∈ cs, x.under m = true
  | [] => by simp [VV.underL]
  | c :: cs => by simp [VV.underL, underL_iff (cs := cs)]
/-- All names are below. -/
def HUn (n : Nat) (H : Heap) : Prop := ∀ k cs, H k = some cs → k < n ∧ VV.underL n cs = true
theorem HUn.of {n : Nat} : ∀ {hp : List (Nat × List VV)}, (hp.all fun e => decide (e.1 < n) && VV.underL n e.2) = true → HUn n (heapOf hp)
  | [], _ => fun k cs h => by simp [heapOf] at h
  | e :: hp, h => fun k cs hk => by
    simp only [List.all_cons, Bool.and_eq_true, decide_eq_true_eq] at h
    unfold heapOf at hk
    split at hk
    · rename_i e'; injection hk with hk; subst hk e'; exact h.1
    · exact HUn.of h.2 k cs hk
/-- A round that begins another one: names above are let go. -/
theorem round_cut {X : Fn} {I : Nat → Slots → Heap → Nat → Prop} {μ : Nat} {s : Slots} {H : Heap} {n m : Nat} (n' : Nat) (hn : X.n = m) (hm : m ≤ n') (hu : HUn n' H) (sl : List (Nat × VV)) (μ' : Nat) (hI : I μ' (slotsOf sl) H n') (hμ : μ' < μ) (hlow : ∀ e ∈ sl, e.1 < X.m)
    (hs : ∀ e ∈ sl, s e.1 = e.2 ∧ e.2.under n' = true) : roundV X I μ s H n := fun hX => by
  have hc : Cov X (fun j => j) s H n (slotsOf sl) H n' (fun _ => False) := by
    refine ⟨slotsOf_all (p := fun j v => Conv (fun j => j) H (fun _ => False) n' (s j) v) (fun j => .any _) sl (fun e he => ?_), fun k cs hk => ?_, by rw [hn]; exact hm, fun j _ => rfl, fun i j _ _ e => e⟩
    · obtain ⟨h1, h2⟩ := hs e he
      rw [h1]; exact conv_id h2
    · obtain ⟨h1, h2⟩ := hu k cs hk
      refine ⟨h1, fun h => h, cs, hk, rfl, fun j x y hx hy => ?_⟩
      rw [hx] at hy; injection hy with hy; subst hy
      exact ⟨conv_id (underL_iff.1 h2 x (List.mem_of_getElem? hx)), fun _ => rfl⟩
  exact ⟨_, _, _, _, μ', hc.vw hX, hc.slots, slotsOf_low sl hlow, hμ, hI⟩
theorem CellsC.nil {ks : List Nat} {H : Heap} : CellsC ks H [] [] := trivial
theorem CellsC.one {ks : List Nat} {H : Heap} {x : VV} {xs ys : List VV} (h : x.clo = true) (t : CellsC ks H xs ys) : CellsC ks H (x :: xs) (x :: ys) := ⟨⟨.clo h, fun _ => rfl⟩, t⟩
theorem CellsC.cons {ks : List Nat} {H : Heap} {x y : VV} {xs ys : List VV} (h : Conv (tau ks) H (fun k => k ∉ ks) ks.length x y) (hd : x.dry = true) (t : CellsC ks H xs ys) : CellsC ks H (x :: xs) (y :: ys) := ⟨⟨h, fun e => by rw [hd] at e; cases e⟩, t⟩
theorem Conv.aggOf {ks : List Nat} {H : Heap} {xs ys : List VV} (h : CellsC ks H xs ys) : Conv (tau ks) H (fun k => k ∉ ks) ks.length (.agg xs) (.agg ys) := .agg h.get.1 fun j x y h1 h2 => (h.get.2 j x y h1 h2).1
theorem Conv.tupOf {ks : List Nat} {H : Heap} {xs ys : List VV} (h : CellsC ks H xs ys) : Conv (tau ks) H (fun k => k ∉ ks) ks.length (.tup xs) (.tup ys) := .tup h.get.1 fun j x y h1 h2 => (h.get.2 j x y h1 h2).1
/-- What is nothing is seen as an empty list. -/
def NvL : List VV → List VV → Prop
  | [], [] => True
  | x :: xs, y :: ys => (x = y ∨ ∃ z, x = .sc (.slice none 0 0) ∧ y = .sl z []) ∧ NvL xs ys
  | _, _ => False
theorem NvL.len : ∀ {xs ys : List VV}, NvL xs ys → xs.length = ys.length
  | [], [], _ => rfl
  | x :: xs, y :: ys, h => by simp [NvL.len h.2]
  | [], y :: ys, h => by simp [NvL] at h
  | x :: xs, [], h => by simp [NvL] at h
theorem NvL.same : ∀ {xs : List VV}, NvL xs xs
  | [] => trivial
  | x :: xs => ⟨.inl rfl, NvL.same⟩
theorem NvL.append : ∀ {xs ys us vs : List VV}, NvL xs us → NvL ys vs → NvL (xs ++ ys) (us ++ vs)
  | [], ys, [], vs, _, h => h
  | x :: xs, ys, u :: us, vs, h, k => ⟨h.1, NvL.append h.2 k⟩
  | [], _, _ :: _, _, h, _ => by simp [NvL] at h
  | _ :: _, _, [], _, h, _ => by simp [NvL] at h
theorem NvL.rep {C : Cx} : ∀ {xs ys : List VV} {us : List Value}, NvL xs ys → RepL C xs us → RepL C ys us
  | [], [], us, _, h => h
  | x :: xs, y :: ys, us, h, hr => by
    simp only [RepL] at hr ⊢
    obtain ⟨v, vs, e, h1, h2⟩ := hr
    refine ⟨v, vs, e, ?_, NvL.rep h.2 h2⟩
    rcases h.1 with rfl | ⟨z, rfl, rfl⟩
    · exact h1
    · simp only [Rep] at h1 ⊢
      exact ⟨none, 0, by simpa using h1, by simp, by simp⟩
  | [], y :: ys, us, h, _ => by simp [NvL] at h
  | x :: xs, [], us, h, _ => by simp [NvL] at h
theorem NvL.ds {C : Cx} : ∀ {xs ys : List VV} {us : List Value} {S : List Nat}, NvL xs ys → DsL C xs us S → DsL C ys us S
  | [], [], us, S, _, h => h
  | x :: xs, y :: ys, us, S, h, hr => by
    simp only [DsL] at hr ⊢
    obtain ⟨v, vs, S1, S2, e, e2, h1, h2⟩ := hr
    refine ⟨v, vs, S1, S2, e, e2, ?_, NvL.ds h.2 h2⟩
    rcases h.1 with rfl | ⟨z, rfl, rfl⟩
    · exact h1
    · simpa only [Dp] using h1
  | [], y :: ys, us, S, h, _ => by simp [NvL] at h
  | x :: xs, [], us, S, h, _ => by simp [NvL] at h
theorem Vw.nil {X : Fn} {H : Heap} {n k : Nat} {cs cs' : List VV} (hk : H k = some cs) (hc : NvL cs cs') : Vw X Eq H n (upd H k cs') n := by
  intro C hS
  have hH := hS.hok
  have hl := hc.len
  have live : ∀ i, upd H k cs' i ≠ none → H i ≠ none := fun i hi => by
    unfold upd at hi
    split at hi
    · rename_i e; rw [e, hk]; simp
    · exact hi
  refine ⟨C, rfl, ⟨hS.le, hS.fr, ⟨?_, ?_, ?_, ?_, ?_⟩, hS.bd, hS.nn, hS.nN, hS.nO, hS.mF, hS.nF, ?_⟩, fun x y v e hr => e ▸ hr⟩
  · intro i es hi
    obtain ⟨es', h'⟩ := Option.ne_none_iff_exists'.1 (live i (by rw [hi]; simp))
    exact hH.nm i es' h'
  · exact fun i hi => hH.own i (live i hi)
  · intro i es hi
    unfold upd at hi
    split at hi
    · rename_i e; subst e
      injection hi with hi; subst hi
      obtain ⟨vs, T, fr, g1, g2, g3, g4, g5, g6⟩ := hH.obj i cs hk
      exact ⟨vs, T, fr, g1, g2, hl ▸ g3, by rw [← hl]; exact hc.rep g4, by rw [← hl]; exact g5, hc.ds g6⟩
    · exact hH.obj i es hi
  · exact fun i hi => hH.nodup i (live i hi)
  · exact fun i j hi hj => hH.sep i j (live i hi) (live j hj)
  · intro b ⟨i, hi, hb⟩
    exact hS.ow b ⟨i, live i hi, hb⟩
theorem HUn.upd {n k : Nat} {H : Heap} {cs : List VV} (h : HUn n H) (hk : k < n) (hc : VV.underL n cs = true) : HUn n (upd H k cs) := fun j ds hj => by
  unfold Go.VM.upd at hj
  split at hj
  · rename_i e; injection hj with hj; subst hj e; exact ⟨hk, hc⟩
  · exact h j ds hj
mutual
theorem under_mono {m n : Nat} (h : m ≤ n) : ∀ (x : VV), x.under m = true → x.under n = true
  | .rf k off len z, hx | .pt k off, hx => by simp only [VV.under, decide_eq_true_eq] at hx ⊢; omega
  | .agg cs, hx | .tup cs, hx | .fn f cs, hx => by simp only [VV.under] at hx ⊢; exact underL_mono h cs hx
  | .any, _ | .sc _, _ | .sl _ _, _ | .pd _, _ | .ow _ _, _ => rfl
theorem underL_mono {m n : Nat} (h : m ≤ n) : ∀ (cs : List VV), VV.underL m cs = true → VV.underL n cs = true
  | [], _ => rfl
  | c :: cs, hx => by simp only [VV.underL, Bool.and_eq_true] at hx ⊢; exact ⟨under_mono h c hx.1, underL_mono h cs hx.2⟩
end
theorem HUn.mono {m n : Nat} {H : Heap} (h : HUn m H) (hm : m ≤ n) : HUn n H := fun j ds hj => ⟨Nat.lt_of_lt_of_le (h j ds hj).1 hm, underL_mono hm _ (h j ds hj).2⟩
theorem ek_at {X : Fn} {H : Heap} {n m m' : Nat} {l : List VV} {r : VV} {ks : List Nat} {hp : List (Nat × List VV)} (hn : X.n = m) (hl : ks.length = m') (hm : m ≤ ks.length) (hk : ∀ j, j < m → tau ks j = j) (hnd : ks.Nodup)
    (hr : Conv (tau ks) H (fun k => k ∉ ks) ks.length (oneV l) r) (hh : HConv ks H hp) : Ek ks X H n l r hp m' := hl ▸ EndV.of hn ks hp hm hk hnd hr hh
theorem tau2 {r : List Nat} : ∀ j, j < 2 → tau (0 :: 1 :: r) j = j
  | 0, _ => rfl
  | 1, _ => rfl
end Go.VM

/- VMX: a row's closed facts, the dear ones by hand. -/
namespace Go.VM
theorem words_space : ∀ (a t : List Char), (a.all fun c => c != Char.ofNat 32) = true → wordsSigns (a ++ (Char.ofNat 32) :: t) = a :: wordsSigns t
  | [], t, _ => by simp only [List.nil_append, wordsSigns]
  | c :: a, t, h => by
    simp only [List.all_cons, Bool.and_eq_true, bne_iff_ne] at h
    have ih := words_space a t h.2
    rw [List.cons_append, wordsSigns]
    · rw [ih]
    · exact fun e => h.1 e
theorem head_cut {l : List Char} (h1 : l.take 8 = "harness ".toList) (h2 : isSumSigns ((l.drop 8).take 64) = true) (h3 : (((l.drop 8).take 64).all fun c => c != Char.ofNat 32) = true) (h4 : (l.drop 72).take 5 = " cut ".toList) :
    behindMainWord (wordsSigns l) = "cut".toList :: wordsSigns (l.drop 77) := by
  have e : l = "harness".toList ++ Char.ofNat 32 :: (((l.drop 8).take 64) ++ Char.ofNat 32 :: ("cut".toList ++ Char.ofNat 32 :: l.drop 77)) := by
    have a1 : l = l.take 8 ++ ((l.drop 8).take 64 ++ ((l.drop 72).take 5 ++ l.drop 77)) := by
      rw [show l.drop 77 = (l.drop 72).drop 5 by rw [List.drop_drop], List.take_append_drop, show l.drop 72 = (l.drop 8).drop 64 by rw [List.drop_drop], List.take_append_drop, List.take_append_drop]
    rw [h1, h4] at a1
    exact a1
  generalize (l.drop 8).take 64 = s at *
  generalize l.drop 77 = t at *
  rw [e, words_space _ _ (by decide), words_space _ _ h3, words_space _ _ (by decide)]
  simp only [behindMainWord, h2, Bool.and_true]
  rfl
theorem lifts_cut (r : List (List Char)) : stripLifts liftWords ("cut".toList :: r) = ([], "cut".toList :: r) := by kernel_rfl
theorem mayEnter_of {P : Program} {r : List (List Char)} (h : behindMainWord (wordsSigns P.initOrder.toList) = "cut".toList :: r) (h1 : P.laysLater = false) (h2 : P.bearsReflect = false) (h3 : P.doorFits [] = true) : P.mayEnter = true := by
  unfold Program.mayEnter
  rw [h]
  simp only [lifts_cut, h1, h2, h3]
  kernel_rfl
theorem headLifts_of {P : Program} {r : List (List Char)} (h : behindMainWord (wordsSigns P.initOrder.toList) = "cut".toList :: r) : P.headLifts = [] := by
  unfold Program.headLifts
  rw [h]
  simp only [lifts_cut]
  kernel_rfl
theorem liftsFinal_of {P : Program} {r : List (List Char)} (h : behindMainWord (wordsSigns P.initOrder.toList) = "cut".toList :: r) : P.liftsFinal = false := by
  unfold Program.liftsFinal
  rw [h, headLifts_of h]
  kernel_rfl
theorem make_of {P : Program} {r : List (List Char)} (h : behindMainWord (wordsSigns P.initOrder.toList) = "cut".toList :: r) : P.make = some .cut := by
  unfold Program.make
  rw [h]
  kernel_rfl
theorem and_intro {a b : Bool} (h : a = true) (k : b = true) : (a && b) = true := by rw [h, k]; rfl
end Go.VM
