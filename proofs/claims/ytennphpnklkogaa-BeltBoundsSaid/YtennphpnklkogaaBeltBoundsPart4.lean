/- BeltBounds: for every input the law answers true and its arguments read as before; no condition. Part 4 of 6: W24, W25, W26, W27, W28, W29, Join, W30, SepM, W31, W34, BCut, BClean, W32, W35, JoinB, BMore, W33, W36, W37, BHeld, BRuled, W38, SepN, BLost, W39, W40, W41, W42, W43, W44, BRuled2, W45, W46. -/
import Derived.Test.YtennphpnklkogaaRows
import Derived.ProofKit
import Derived.OpenShut
import Derived.SizedLaws
import Derived.JoinedOf
import Derived.Carry
import Derived.Test.YtennphpnklkogaaBeltBoundsPart3
set_option linter.unusedSimpArgs false
set_option linter.unusedVariables false
/- The orders of the hands, tried one by one. -/
namespace Go.Sx
open Go.Proofs
set_option maxRecDepth 100000
def leftSum (b : BeltD) (order : List Nat) : Int := sumN b.nt fun t => sum5 ((ruleN b.hand b.tray order b.nt).1 t)
def leafD (b : BeltD) (order : List Nat) (s : List Nat × Int) : List Nat × Int := if s.2 < 0 ∨ leftSum b order < s.2 then (order, leftSum b order) else s
def growD (b : BeltD) : Nat → List Nat → List Nat × Int → List Nat × Int
  | 0, _, s => s
  | k + 1, order, s => if order.length < b.nh then (List.range b.nh).foldl (fun s h => if order.contains h = true then s else growD b k (order ++ [h]) s) s else leafD b order s
theorem natsI_contains (l : List Nat) (x : Nat) : (natsI l).contains (x : Int) = l.contains x := by
  rw [Bool.eq_iff_iff]
  simp only [List.contains_iff_mem, natsI, List.mem_map]
  constructor
  · rintro ⟨a, ha, e⟩
    have : a = x := by omega
    exact this ▸ ha
  · intro h; exact ⟨x, h, rfl⟩
theorem natsI_length (l : List Nat) : (natsI l).length = l.length := by simp [natsI]
theorem left_bound {b : BeltD} (hk : BOK b) {order : List Nat} (hlt : ∀ x ∈ order, x < b.nh) {t m : Nat} (ht : t < b.nt) (hm : m < 5) : 0 ≤ (ruleN b.hand b.tray order b.nt).1 t m ∧ (ruleN b.hand b.tray order b.nt).1 t m ≤ 60 :=
  (rule_inv hk.ok hlt hk.tr b.nt (Nat.le_refl _)).l0 t m ht hm
attribute [local irreducible] Code.wpIn wpListIn Exit.then Exit.inBlock BQ Again Hd St En OpT box blk RQ BQ0 fmap own Desk

theorem dp_norm1 {l : List Oper} {P : Program} {n : Nat} {rd : Option Nat} {Q : Exit → Act → World → Prop} {Φ : Fr} {td np : List Nat} {σ : Env} {h0 hc : Heap} {Γ Γ' : List HP} [x : LNorm Γ Γ'] (H : DP l P n rd Q Φ td np σ h0 [] hc Γ') : DP l P n rd Q Φ td np σ h0 [] hc Γ := by rw [x.eq]; exact H
theorem grow_ct (b : BeltD) (hk : BOK b) (h0 : Heap) (d b1 b9 b5 b8 b7 : Nat) (tv hv wv : Value) (hb : IsBelt h0 (.agg #[tv, hv]) b) (k1 : CellsH h0 b1 0 [tv, hv]) (k9 : cellH h0 b9 0 = some (.func (.func 105) #[] #[pt b1, pt b9, pt b5, pt b8, pt b7])) (k5 : cellH h0 b5 0 = some (pt d)) :
    ∀ (k : Nat) (h : Heap) (order best : List Nat) (few : Int) (ov bv : Value), h0.sub h → order.length ≤ b.nh → b.nh - order.length < k → (∀ x ∈ order, x < b.nh) → IsInts h ov (natsI order) → IsInts h bv (natsI best) →
      CT Try.prog 105 [ov, pt b1, pt b9, pt b5, pt b8, pt b7] h [box b7 33 [bv], box b8 3 [.int .i64 few], Desk d tv hv wv b.hand] (fun v h' Γ' => v = .tuple #[] ∧ ∃ bv', IsInts h' bv' (natsI (growD b k order (best, few)).1) ∧ Γ' = [box b7 33 [bv'], box b8 3 [.int .i64 (growD b k order (best, few)).2], Desk d tv hv wv b.hand])
  | 0, h, order, best, few, ov, bv, _, _, hf, _, _, _ => by omega
  | k + 1, h, order, best, few, ov, bv, hs0, hol, hf, hlt, hov, hbv => by
    have ih := grow_ct b hk h0 d b1 b9 b5 b8 b7 tv hv wv hb k1 k9 k5 k
    have hb' := hb.mono hs0
    obtain ⟨hT, hH⟩ := belt_parts hb'
    have hH0 := hH
    obtain ⟨rv, ⟨_, had, hcp, rfl, hm1, hc1, hp1⟩, hr⟩ := hH
    have h5 := hk.h5
    have h8 := hk.n8
    have k11 : cellH h b1 1 = some (.slice had b.nh hcp) := cellH_sub hs0 (k1 1 _ rfl)
    have hov0 := hov
    obtain ⟨oad, ocp, rfl, om, oc, _⟩ := hov.shape
    have ol := natsI_length order
    rw [ol] at om hov0 ⊢
    show CT _ _ _ _ _ _
    unfold growD
    refine ct_intro Try.func105 rfl rfl rfl rfl fun Φ => ?_
    skip
    by_cases hlen : order.length < b.nh
    · rw [if_pos hlen]
      refine en_seq <| en_seq <| en_region <| en_det (opT_move rfl) rfl <| en_det (opT_len rfl) rfl <| en_det (opT_fieldAddr rfl) rfl <| ?_
      first | refine en_det (opT_load_h rfl (by assumption)) rfl ?_ | refine en_det (opT_load_own rfl rfl) rfl ?_
      refine en_det (opT_len rfl) rfl <| en_det (opT_lss_t rfl rfl (by omega)) rfl <| en_nil <| en_then <| en_cond_t rfl <| en_seq <| en_seq <| en_region <| en_det (opT_fieldAddr rfl) rfl <| ?_
      first | refine en_det (opT_load_h rfl (by assumption)) rfl ?_ | refine en_det (opT_load_own rfl rfl) rfl ?_
      refine en_det (opT_len rfl) rfl <| en_det (opT_move rfl) rfl <| en_nil <| en_then <| en_block <| ?_
      generalize hf' : (fun (s : List Nat × Int) (h : Nat) => if order.contains h = true then s else growD b k (order ++ [h]) s) = f
      have hfold : ∀ i, (List.range (i + 1)).foldl f (best, few) = f ((List.range i).foldl f (best, few)) i := fun i => by simp [List.range_succ, List.foldl_append]
      refine en_loop (fun x : Nat × Value × Heap => x.1 ≤ b.nh ∧ h.sub x.2.2 ∧ IsInts x.2.2 x.2.1 (natsI ((List.range x.1).foldl f (best, few)).1)) (fun x => [(0, .slice oad order.length ocp), (1, pt b1), (2, pt b9), (3, pt b5), (4, pt b8), (5, pt b7), (21, .int .i64 b.nh), (22, .int .i64 x.1)]) (fun x => x.2.2) (fun x => [box b7 33 [x.2.1], box b8 3 [.int .i64 ((List.range x.1).foldl f (best, few)).2], Desk d tv (.slice had b.nh hcp) wv b.hand]) (fun x => b.nh - x.1) (0, bv, h) ⟨by simp, .refl _, hbv⟩ ⟨rfl, rfl, rfl, rfl, rfl, rfl, rfl, rfl, trivial⟩ (.refl _) (tkAll _) fun x hx => ?_
      obtain ⟨i, bv1, h1⟩ := x
      obtain ⟨hi, hs1, hb1⟩ := hx
      simp only at hi hs1 hb1
      change En _ _ _ [(0, .slice oad order.length ocp), (1, pt b1), (2, pt b9), (3, pt b5), (4, pt b8), (5, pt b7), (21, .int .i64 b.nh), (22, .int .i64 i)] h1 [box b7 33 [bv1], box b8 3 [.int .i64 ((List.range i).foldl f (best, few)).2], Desk d tv (.slice had b.nh hcp) wv b.hand]
      refine en_seq <| en_region <| ?_
      first | refine en_det (opT_lss_t rfl rfl (by omega)) rfl ?_ | refine en_det (opT_lss_f rfl rfl (by omega)) rfl ?_ | refine en_det (opT_lss rfl rfl) rfl ?_
      refine en_nil <| en_then <| en_seq <| ?_
      refine en_if rfl (fun hlt1 => ?_) (fun hlt1 => ?_)
      · skip
        have hin : i < b.nh := by omega
        have hfi := hfold i
        have cC := contains106_ct h1 _ _ (i : Int) (hov0.mono hs1)
        rw [natsI_contains] at cC
        generalize (List.range i).foldl f (best, few) = S at hb1 hfi ⊢
        cases hcn : order.contains i with
        | true =>
          rw [hcn] at cC
          have e : (List.range (i + 1)).foldl f (best, few) = S := by rw [hfi, ← hf']; simp only [hcn, if_true]
          rw [← e] at hb1 ⊢
          skip
          refine en_skip <| en_then <| en_seq <| en_block <| en_seq <| en_region <| en_det (opT_move rfl) rfl <| en_det (opT_assign rfl) rfl <| en_nil <| en_then <| en_seq <| en_region <| en_det (opT_move rfl) rfl <| en_det (opT_move rfl) rfl <| en_calld (cC) rfl rfl rfl rfl <| ?_
          first | refine en_det (opT_not_t rfl) rfl ?_ | refine en_det (opT_not_f rfl) rfl ?_ | refine en_det (opT_not rfl) rfl ?_
          refine en_nil <| en_then <| en_cond_f rfl <| en_skip <| en_blk <| en_then <| en_region <| en_det (opT_add rfl rfl (by constructor <;> omega)) rfl <| en_det (opT_move rfl) rfl <| en_nil <| en_then <| ?_
          exact en_again (i + 1, bv1, h1) ⟨by simp only; omega, hs1, hb1⟩ (by simp only; omega) ⟨rfl, rfl, rfl, rfl, rfl, rfl, rfl, gi rfl (by simp), trivial⟩ (.refl _) (tkAll _)
        | false =>
          rw [hcn] at cC
          have e : (List.range (i + 1)).foldl f (best, few) = growD b k (order ++ [i]) S := by rw [hfi, ← hf']; simp only [hcn, Bool.false_eq_true, if_false]
          refine en_skip <| en_then <| en_seq <| en_block <| en_seq <| en_region <| en_det (opT_move rfl) rfl <| en_det (opT_assign rfl) rfl <| en_nil <| en_then <| en_seq <| en_region <| en_det (opT_move rfl) rfl <| en_det (opT_move rfl) rfl <| en_calld (cC) rfl rfl rfl rfl <| ?_
          first | refine en_det (opT_not_t rfl) rfl ?_ | refine en_det (opT_not_f rfl) rfl ?_ | refine en_det (opT_not rfl) rfl ?_
          refine en_nil <| en_then <| en_cond_t rfl <| ?_
          skip
          refine en_draw1 [0, 1, 3, 2, 4, 5, 6] (by kernel_rfl) (by decide +kernel) (by decide +kernel) (by decide) ?_
          refine dp_q rfl (opT_load_h rfl (cellH_sub (hs0.trans hs1) k9)) rfl rfl rfl <| dp_p rfl (fun _ _ => opT_move rfl) rfl rfl rfl <| dp_p rfl (fun _ _ => opT_move rfl) rfl rfl rfl <| ?_
          have cK := clone107_ct h1 _ _ (hov0.mono hs1) (by rw [ol]; omega)
          refine dp_two1 (e1 := 2) (e2 := 4) rfl rfl rfl (opT_call rfl rfl rfl cK) (opT_buildSlice (cs := [.int .i64 i]) rfl rfl (by kernel_rfl)) rfl rfl rfl (by simp) rfl rfl rfl rfl (fun v h2 Γ2 hs2 hC => ?_) (fun v h2 Γ2 hs2 hC => ?_)
          · obtain ⟨Γ3, ⟨e1, cad, ccp, e2, e3⟩, e4⟩ := hC
            subst e2 e3 e4
            have HS : h1.sub h2 := hs2
            refine dp_norm1 ?_
            refine dp_e1 rfl (opT_buildSlice (cs := [.int .i64 i]) rfl rfl (by kernel_rfl)) rfl rfl rfl rfl fun _ _ _ _ ⟨bq, e1, e2, e3⟩ => ?_
            subst e1 e3; replace e2 := e2.symm; subst e2
            refine dp_e1 rfl (opT_fz (opT_app1 rfl rfl rfl rfl rfl rfl (by omega))) rfl rfl rfl rfl fun vq h3 Γ3 hs3 hC => ?_
            obtain ⟨hsl, e3⟩ := hC
            subst e3
            have hnew : IsInts h3 vq (natsI (order ++ [i])) := by simpa [IsInts, natsI] using hsl
            refine dp_e1 rfl (opT_call rfl rfl rfl (ih h3 (order ++ [i]) S.1 S.2 vq bv1 (hs0.trans (hs1.trans (HS.trans hs3))) (by simp; omega) (by simp; omega) (fun x hx => by rcases List.mem_append.1 hx with hx | hx; exact hlt x hx; simp only [List.mem_singleton] at hx; omega) hnew (hb1.mono (HS.trans hs3)))) rfl rfl rfl rfl fun v4 h4 Γ4 hs4 hC => ?_
            obtain ⟨Γ5, ⟨rfl, bv2, hb2, rfl⟩, rfl⟩ := hC
            rw [← e] at hb2 ⊢
            refine dp_done1 (en_norm ?_)
            refine en_blk <| en_then <| en_region <| en_det (opT_add rfl rfl (by constructor <;> omega)) rfl <| en_det (opT_move rfl) rfl <| en_nil <| en_then <| ?_
            exact en_again (i + 1, bv2, h4) ⟨by simp only; omega, hs1.trans (HS.trans (hs3.trans hs4)), hb2⟩ (by simp only; omega) ⟨rfl, rfl, rfl, rfl, rfl, rfl, rfl, gi rfl (by simp), trivial⟩ (.refl _) inferInstance
          · obtain ⟨bq, e1, e2, e3⟩ := hC
            subst e1 e3; replace e2 := e2.symm; subst e2
            refine dp_e1 rfl (opT_call rfl rfl rfl cK) rfl rfl rfl rfl fun v h2 Γ2 hs2 hC => ?_
            obtain ⟨Γ3, ⟨e1, cad, ccp, e2, e3⟩, e4⟩ := hC
            subst e2 e3 e4
            have HS : h1.sub h2 := hs2
            refine dp_norm1 ?_
            refine dp_e1 rfl (opT_fz (opT_app1 rfl rfl rfl rfl rfl rfl (by omega))) rfl rfl rfl rfl fun vq h3 Γ3 hs3 hC => ?_
            obtain ⟨hsl, e3⟩ := hC
            subst e3
            have hnew : IsInts h3 vq (natsI (order ++ [i])) := by simpa [IsInts, natsI] using hsl
            refine dp_e1 rfl (opT_call rfl rfl rfl (ih h3 (order ++ [i]) S.1 S.2 vq bv1 (hs0.trans (hs1.trans (HS.trans hs3))) (by simp; omega) (by simp; omega) (fun x hx => by rcases List.mem_append.1 hx with hx | hx; exact hlt x hx; simp only [List.mem_singleton] at hx; omega) hnew (hb1.mono (HS.trans hs3)))) rfl rfl rfl rfl fun v4 h4 Γ4 hs4 hC => ?_
            obtain ⟨Γ5, ⟨rfl, bv2, hb2, rfl⟩, rfl⟩ := hC
            rw [← e] at hb2 ⊢
            refine dp_done1 (en_norm ?_)
            refine en_blk <| en_then <| en_region <| en_det (opT_add rfl rfl (by constructor <;> omega)) rfl <| en_det (opT_move rfl) rfl <| en_nil <| en_then <| ?_
            exact en_again (i + 1, bv2, h4) ⟨by simp only; omega, hs1.trans (HS.trans (hs3.trans hs4)), hb2⟩ (by simp only; omega) ⟨rfl, rfl, rfl, rfl, rfl, rfl, rfl, gi rfl (by simp), trivial⟩ (.refl _) inferInstance
      · skip
        obtain rfl : i = b.nh := by omega
        refine en_exit <| en_then_exit <| en_then_exit <| en_blk_hit <| en_then <| en_ret <| en_then_ret <| ?_
        refine en_return (rs := []) rfl .nil hs1 (t := tkAll _) ⟨rfl, bv1, hb1, rfl⟩
    · rw [if_neg hlen]
      have k5' := cellH_sub hs0 k5
      refine en_seq <| en_seq <| en_region <| en_det (opT_move rfl) rfl <| en_det (opT_len rfl) rfl <| en_det (opT_fieldAddr rfl) rfl <| ?_
      first | refine en_det (opT_load_h rfl (by assumption)) rfl ?_ | refine en_det (opT_load_own rfl rfl) rfl ?_
      refine en_det (opT_len rfl) rfl <| en_det (opT_lss_f rfl rfl (by omega)) rfl <| en_nil <| en_then <| en_cond_f rfl <| en_skip <| en_then <| en_seq <| en_region <| ?_
      first | refine en_det (opT_load_h rfl (by assumption)) rfl ?_ | refine en_det (opT_load_own rfl rfl) rfl ?_
      refine en_det (opT_move rfl) rfl <| ?_
      refine en_call (rule_ct h d b.nh b.nt tv (.slice had b.nh hcp) wv (.slice oad order.length ocp) b.tray b.hand order (by omega) hlt (by omega) hk.ok (by have := hk.n1; omega) (by omega) hT hH0 hov0 hk.tr) rfl rfl rfl rfl fun v h1 Γ' hs1 hv' => ?_
      obtain ⟨bl, bh, rfl, rfl⟩ := hv'
      refine en_norm ?_
      refine en_keep [box bl 31 (rows b.nt 5 (icell (ruleN b.hand b.tray order b.nt).1)), box b7 33 [bv], box b8 3 [.int .i64 few], Desk d tv (.slice had b.nh hcp) wv b.hand] ?_
      have hL := fun t m ht hm => left_bound hk (t := t) (m := m) hlt ht hm
      have hsumL : leftSum b order = sumN b.nt fun t => sum5 ((ruleN b.hand b.tray order b.nt).1 t) := rfl
      unfold leafD
      generalize leftSum b order = N at hsumL ⊢
      generalize (ruleN b.hand b.tray order b.nt).1 = L at hL hsumL ⊢
      have hrow : ∀ t, t < b.nt → 0 ≤ sum5 (L t) ∧ sum5 (L t) ≤ 300 := fun t ht => by
        have := sumN_bound (n := 5) (f := L t) (B := 60) fun m hm => hL t m ht hm
        unfold sum5; omega
      refine en_det (opT_move rfl) rfl <| en_det (opT_extract rfl rfl) rfl <| en_det (opT_extract rfl rfl) rfl <| en_det (opT_assign rfl) rfl <| en_det (opT_assign rfl) rfl <| en_nil <| en_then <| en_seq <| en_region <| en_det (opT_assign rfl) rfl <| en_nil <| en_then <| en_seq <| en_seq <| en_region <| en_det (opT_move rfl) rfl <| en_det (opT_len rfl) rfl <| en_det (opT_move rfl) rfl <| en_nil <| en_then <| en_block <| ?_
      refine en_loop (fun t : Nat => t ≤ b.nt) (fun t : Nat => [(0, .slice oad order.length ocp), (4, pt b8), (5, pt b7), (10, .int .i64 (sumN t fun t => sum5 (L t))), (43, .slice (some ⟨bl, 0, none⟩) b.nt b.nt), (44, .int .i64 b.nt), (45, .int .i64 t)]) (fun _ => h1) (fun _ => [box bl 31 (rows b.nt 5 (icell L)), box b7 33 [bv], box b8 3 [.int .i64 few], Desk d tv (.slice had b.nh hcp) wv b.hand]) (fun t => b.nt - t) 0 (by omega) ⟨rfl, rfl, rfl, rfl, rfl, rfl, rfl, trivial⟩ (.refl _) (tkAll _) fun t ht => ?_
      refine en_seq <| en_region <| ?_
      first | refine en_det (opT_lss_t rfl rfl (by omega)) rfl ?_ | refine en_det (opT_lss_f rfl rfl (by omega)) rfl ?_ | refine en_det (opT_lss rfl rfl) rfl ?_
      refine en_nil <| en_then <| en_seq <| ?_
      refine en_if rfl (fun hlt2 => ?_) (fun hlt2 => ?_)
      · skip
        have htn : t < b.nt := by omega
        have hr1 := hrow t htn
        have hsum := sumN_bound (n := t) (f := fun t => sum5 (L t)) (B := 300) fun i hi => hrow i (by omega)
        have cS : ∀ bx, CT Try.prog 76 [.slice (some ⟨bx, 0, none⟩) 5 5] h1 [box bx 31 (row 5 (icell L t))] (DetW (.int .i64 (sum5 (L t))) [box bx 31 (row 5 (icell L t))]) := fun bx =>
          add_own_ct h1 bx 0 5 5 31 _ (L t) (by omega) (fun j hj => by have := hL t j htn hj; omega) (fun j hj => by rw [Nat.zero_add]; exact row_get hj)
        refine en_skip <| en_then <| en_seq <| en_block <| en_seq <| en_region <| ?_
        first | refine en_det (opT_idx1 rfl rfl (by omega) (by omega)) rfl ?_ | refine en_det (opT_idx (ks := 0) rfl rfl (by omega) (by omega)) rfl ?_
        refine en_det (opT_loadA_own (t := rows_take htn) rfl) rfl <| en_alloc rfl fun b12 => ?_
        refine en_det0 (opT_storeW rfl rfl rfl rfl (one_trayL (L t))) <| en_nil <| en_then <| en_region <| en_det (opT_move rfl) rfl <| en_det (opT_sliceArr (by omega) rfl) rfl <| en_calld (cS b12) rfl rfl rfl rfl <| en_det (opT_add rfl rfl (by constructor <;> omega)) rfl <| en_det (opT_assign rfl) rfl <| en_nil <| en_blk <| en_then <| en_region <| en_det (opT_add rfl rfl (by constructor <;> omega)) rfl <| en_det (opT_move rfl) rfl <| en_nil <| en_then <| ?_
        exact en_again (t + 1) (by omega) (by omega) ⟨rfl, rfl, rfl, rfl, rfl, rfl, gi rfl (by simp), trivial⟩ (.refl _) inferInstance
      · skip
        obtain rfl : t = b.nt := by omega
        rw [← hsumL]
        skip
        by_cases c1 : few < 0
        · rw [if_pos (.inl c1)]
          refine en_exit <| en_then_exit <| en_then_exit <| en_blk_hit <| en_then <| en_seq <| en_region <| en_det (opT_load_own rfl rfl) rfl <| en_det (opT_lss_t rfl rfl (by omega)) rfl <| en_det (opT_move rfl) rfl <| en_g_no rfl rfl rfl <| en_g_no rfl rfl rfl <| en_g_no rfl rfl rfl <| ?_
          first | refine en_det (opT_pick_t rfl rfl) rfl ?_ | refine en_det (opT_pick_f rfl rfl) rfl ?_
          refine en_nil <| en_then <| en_cond_t rfl <| en_region <| en_det (opT_move rfl) rfl <| en_det (opT_move rfl) rfl <| en_det0 (opT_store1 rfl rfl rfl) <| en_det0 (opT_store1 rfl rfl rfl) <| en_nil <| en_return_n <| ?_
          refine en_return (rs := []) rfl .nil hs1 (Γ1 := [box b7 33 [.slice oad order.length ocp], box b8 3 [.int .i64 N], Desk d tv (.slice had b.nh hcp) wv b.hand]) ⟨rfl, _, hov0.mono hs1, rfl⟩
        · by_cases c2 : N < few
          · rw [if_pos (.inr c2)]
            refine en_exit <| en_then_exit <| en_then_exit <| en_blk_hit <| en_then <| en_seq <| en_region <| en_det (opT_load_own rfl rfl) rfl <| en_det (opT_lss_f rfl rfl (by omega)) rfl <| en_det (opT_move rfl) rfl <| en_g_yes rfl rfl <| en_det (opT_move rfl) rfl <| en_g_yes rfl rfl <| en_det (opT_load_own rfl rfl) rfl <| en_g_yes rfl rfl <| en_det (opT_lss_t rfl rfl (by omega)) rfl <| ?_
            first | refine en_det (opT_pick_t rfl rfl) rfl ?_ | refine en_det (opT_pick_f rfl rfl) rfl ?_
            refine en_nil <| en_then <| en_cond_t rfl <| en_region <| en_det (opT_move rfl) rfl <| en_det (opT_move rfl) rfl <| en_det0 (opT_store1 rfl rfl rfl) <| en_det0 (opT_store1 rfl rfl rfl) <| en_nil <| en_return_n <| ?_
            refine en_return (rs := []) rfl .nil hs1 (Γ1 := [box b7 33 [.slice oad order.length ocp], box b8 3 [.int .i64 N], Desk d tv (.slice had b.nh hcp) wv b.hand]) ⟨rfl, _, hov0.mono hs1, rfl⟩
          · rw [if_neg (by rintro (hx | hx) <;> omega)]
            refine en_exit <| en_then_exit <| en_then_exit <| en_blk_hit <| en_then <| en_seq <| en_region <| en_det (opT_load_own rfl rfl) rfl <| en_det (opT_lss_f rfl rfl (by omega)) rfl <| en_det (opT_move rfl) rfl <| en_g_yes rfl rfl <| en_det (opT_move rfl) rfl <| en_g_yes rfl rfl <| en_det (opT_load_own rfl rfl) rfl <| en_g_yes rfl rfl <| en_det (opT_lss_f rfl rfl (by omega)) rfl <| ?_
            first | refine en_det (opT_pick_t rfl rfl) rfl ?_ | refine en_det (opT_pick_f rfl rfl) rfl ?_
            refine en_nil <| en_then <| en_cond_f rfl <| en_skip <| en_return_n <| ?_
            refine en_return (rs := []) rfl .nil hs1 (Γ1 := [box b7 33 [bv], box b8 3 [.int .i64 few], Desk d tv (.slice had b.nh hcp) wv b.hand]) ⟨rfl, _, hbv.mono hs1, rfl⟩
end Go.Sx

/- The best order of the hands. -/
namespace Go.Sx
open Go.Proofs
set_option maxRecDepth 100000
def lineB (b : BeltD) : List Nat × Int := growD b (b.nh + 1) [] ([], -1)
def LineR (b : BeltD) (v : Value) (h' : Heap) (Γ' : List HP) : Prop :=
  Γ' = [] ∧ ((checkD b = 0 ∧ ∃ lv, v = .tuple #[lv, .int .i64 (lineB b).2, .int .i64 0] ∧ IsInts h' lv (natsI (lineB b).1)) ∨ (checkD b ≠ 0 ∧ v = .tuple #[nilS, .int .i64 0, .int .i64 (checkD b)]))
attribute [local irreducible] Code.wpIn wpListIn Exit.then Exit.inBlock BQ Again Hd St En OpT box blk RQ BQ0 fmap own Desk

theorem line_ct (h : Heap) (tv hv : Value) (b : BeltD) (hb : IsBelt h (.agg #[tv, hv]) b) : CT Try.prog 73 [.agg #[tv, hv]] h [] (LineR b) := by
  have cA := opened_ct h tv hv b hb
  refine ct_intro Try.func73 rfl rfl rfl rfl fun Φ => ?_
  refine en_seq <| en_region <| en_box rfl rfl rfl fun b1 => en_det (opT_assign rfl) rfl <| en_det (opT_assign rfl) rfl <| en_det (opT_assign rfl) rfl <| en_nil <| en_then <| en_seq <| en_region <| ?_
  first | refine en_det (opT_loadW_own rfl rfl) rfl ?_ | refine en_det (opT_loadA_own rfl) rfl ?_
  refine en_call cA rfl rfl rfl rfl fun v h1 Γ' hs1 hv => ?_
  skip
  rcases hv with ⟨hz, d, rfl, rfl⟩ | ⟨hz, rfl, rfl⟩
  · refine en_norm ?_
    have hk := check_ok.1 hz
    refine en_det (opT_move rfl) rfl <| en_det (opT_extract rfl rfl) rfl <| en_det (opT_extract rfl rfl) rfl <| en_alloc rfl fun b5 => ?_
    refine en_det0 (opT_store1 rfl rfl rfl) <| en_det (opT_assign rfl) rfl <| en_nil <| en_then <| en_seq <| en_seq <| en_region <| en_det (opT_move rfl) rfl <| en_det (opT_neq_f rfl rfl (by omega)) rfl <| en_nil <| en_then <| en_cond_f rfl <| en_skip <| en_then <| en_seq <| en_region <| en_alloc rfl fun b7 => ?_
    refine en_nil <| en_then <| en_seq <| en_region <| en_alloc rfl fun b8 => ?_
    refine en_det0 (opT_store1 rfl rfl rfl) <| en_nil <| en_then <| en_seq <| en_region <| en_alloc rfl fun b9 => ?_
    refine en_nil <| en_then <| en_seq <| en_region <| en_det (opT_makeFunc rfl rfl) rfl <| en_det0 (opT_store1 rfl rfl rfl) <| en_nil <| en_then <| en_seq <| en_region <| en_det (opT_load_own rfl rfl) rfl <| ?_
    change En _ _ _ _ _ [box b9 158 [.func (.func 105) #[] #[pt b1, pt b9, pt b5, pt b8, pt b7]], box b8 3 [.int .i64 (-1)], box b7 33 [nilS], box b5 116 [pt d], Desk d tv hv wholeV b.hand, box b1 26 [tv, hv]]
    refine en_fzb fun h2 hs2 hb2 => ?_
    refine en_pick (box b5 116 [pt d]) ?_
    refine en_fzb fun h3 hs3 hb3 => ?_
    refine en_pick (box b1 26 [tv, hv]) ?_
    refine en_fzb fun h4 hs4 hb4 => ?_
    have s14 : h.sub h4 := hs1.trans (hs2.trans (hs3.trans hs4))
    have cG := grow_ct b hk h4 d b1 b9 b5 b8 b7 tv hv wholeV (hb.mono s14) (cellsH_box hb4) (cellH_sub (hs3.trans hs4) (cellH_box hb2 rfl)) (cellH_sub hs4 (cellH_box hb3 rfl)) (b.nh + 1) h4 [] [] (-1) nilS nilS (.refl _) (by simp) (by simp) (by simp) (SlH.nil _ _) (SlH.nil _ _)
    have k9 : cellH h4 b9 0 = some (.func (.func 105) #[] #[pt b1, pt b9, pt b5, pt b8, pt b7]) := cellH_sub (hs3.trans hs4) (cellH_box hb2 rfl)
    refine en_call cG rfl rfl rfl rfl fun v h5 Γ' hs5 hv' => ?_
    obtain ⟨rfl, bv, hbv, rfl⟩ := hv'
    refine en_norm ?_
    change IsInts h5 bv (natsI (lineB b).1) at hbv
    change En _ _ _ _ _ [box b7 33 [bv], box b8 3 [.int .i64 (lineB b).2], Desk d tv hv wholeV b.hand]
    refine en_nil <| en_then <| en_seq <| en_draw0 [0, 1, 2, 3, 4] (by kernel_rfl) (by decide +kernel) (by decide +kernel) (by decide) <| dp_q rfl (opT_load_own rfl rfl) rfl rfl rfl <| dp_q rfl (opT_load_own rfl rfl) rfl rfl rfl <| dp_p rfl (fun _ _ => opT_assign rfl) rfl rfl rfl <| dp_p rfl (fun _ _ => opT_assign rfl) rfl rfl rfl <| dp_p rfl (fun _ _ => opT_assign rfl) rfl rfl rfl <| dp_done0 <| en_then <| en_ret <| ?_
    refine en_return (rs := [.tmp 2, .tmp 3, .tmp 4]) rfl (.cons (.tmp rfl) (.cons (.tmp rfl) (.cons (.tmp rfl) .nil))) (s14.trans hs5) (Γ1 := []) ⟨rfl, .inl ⟨hz, bv, rfl, hbv⟩⟩
  · refine en_norm ?_
    refine en_det (opT_move rfl) rfl <| en_det (opT_extract rfl rfl) rfl <| en_det (opT_extract rfl rfl) rfl <| en_alloc rfl fun b5 => ?_
    refine en_det0 (opT_store1 rfl rfl rfl) <| en_det (opT_assign rfl) rfl <| en_nil <| en_then <| en_seq <| en_seq <| en_region <| en_det (opT_move rfl) rfl <| en_det (opT_neq_t rfl rfl (by omega)) rfl <| en_nil <| en_then <| en_cond_t rfl <| en_seq <| en_region <| en_det (opT_move rfl) rfl <| en_det (opT_assign rfl) rfl <| en_det (opT_assign rfl) rfl <| en_det (opT_assign rfl) rfl <| en_nil <| en_then <| en_ret <| en_then_ret <| ?_
    refine en_return (rs := [.tmp 2, .tmp 3, .tmp 4]) rfl (.cons (.tmp rfl) (.cons (.tmp rfl) (.cons (.tmp rfl) .nil))) hs1 (Γ1 := []) ⟨rfl, .inr ⟨hz, rfl⟩⟩
end Go.Sx

/- Lists that are alike. -/
namespace Go.Sx
open Go.Proofs
set_option maxRecDepth 100000
attribute [local irreducible] Code.wpIn wpListIn Exit.then Exit.inBlock BQ Again Hd St En OpT box blk RQ BQ0 fmap own Desk
theorem alike48_ct (h : Heap) (v u : Value) (l r : List Int) (hv : IsInts h v l) (hu : IsInts h u r) : CT Try.prog 48 [v, u] h [] (DetW (.bool (decide (l = r))) []) := by
  obtain ⟨ad, cp, rfl, hl, hc, hp⟩ := hv.shape
  obtain ⟨ad', cp', rfl, hl', hc', hp'⟩ := hu.shape
  refine ct_intro Try.func48 rfl rfl rfl rfl fun Φ => ?_
  skip
  by_cases hlen : l.length = r.length
  · refine en_seq <| en_region <| en_det (opT_assign rfl) rfl <| en_nil <| en_then <| en_seq <| en_seq <| en_region <| en_det (opT_move rfl) rfl <| en_det (opT_len rfl) rfl <| en_det (opT_move rfl) rfl <| en_det (opT_len rfl) rfl <| en_det (opT_neq_f rfl rfl (by omega)) rfl <| en_nil <| en_then <| en_cond_f rfl <| en_skip <| en_then <| en_seq <| en_seq <| en_region <| en_det (opT_move rfl) rfl <| en_det (opT_len rfl) rfl <| en_det (opT_move rfl) rfl <| en_nil <| en_then <| en_block <| ?_
    refine en_loop (fun k => k ≤ l.length ∧ ∀ i (hi : i < l.length) (hi' : i < r.length), i < k → l[i] = r[i]) (fun k : Nat => [(0, .slice ad l.length cp), (1, .slice ad' r.length cp'), (12, .slice ad l.length cp), (13, .int .i64 l.length), (14, .int .i64 k)]) (fun _ => h) (fun _ => []) (fun k => l.length - k) 0 ⟨by omega, fun i _ _ hi => by omega⟩ ⟨rfl, rfl, rfl, rfl, rfl, trivial⟩ (.refl _) inferInstance fun k ⟨hk, heq⟩ => ?_
    refine en_seq <| en_region <| ?_
    first | refine en_det (opT_lss_t rfl rfl (by omega)) rfl ?_ | refine en_det (opT_lss_f rfl rfl (by omega)) rfl ?_ | refine en_det (opT_lss rfl rfl) rfl ?_
    refine en_nil <| en_then <| en_seq <| ?_
    refine en_if rfl (fun hlt => ?_) (fun hlt => ?_)
    · skip
      have hkl : k < l.length := by omega
      have hkr : k < r.length := by omega
      obtain ⟨b, off, rfl, hcc⟩ := hp (by omega)
      have hck := hcc k hkl
      obtain ⟨b', off', rfl, hcc'⟩ := hp' (by omega)
      have hck' := hcc' k hkr
      skip
      by_cases hx : l[k] = r[k]
      · refine en_skip <| en_then <| en_seq <| en_block <| en_seq <| en_region <| en_det (opT_move rfl) rfl <| ?_
        first | refine en_det (opT_idx1 rfl rfl (by omega) (by omega)) rfl ?_ | refine en_det (opT_idx (ks := 0) rfl rfl (by omega) (by omega)) rfl ?_
        first | refine en_det (opT_load_h rfl (by assumption)) rfl ?_ | refine en_det (opT_load_own rfl rfl) rfl ?_
        refine en_det (opT_assign rfl) rfl <| en_det (opT_assign rfl) rfl <| en_nil <| en_then <| en_seq <| en_region <| en_det (opT_move rfl) rfl <| en_det (opT_move rfl) rfl <| en_det (opT_move rfl) rfl <| ?_
        first | refine en_det (opT_idx1 rfl rfl (by omega) (by omega)) rfl ?_ | refine en_det (opT_idx (ks := 0) rfl rfl (by omega) (by omega)) rfl ?_
        first | refine en_det (opT_load_h rfl (by assumption)) rfl ?_ | refine en_det (opT_load_own rfl rfl) rfl ?_
        refine en_det (opT_neq_f rfl rfl (by omega)) rfl <| en_nil <| en_then <| en_cond_f rfl <| en_skip <| en_blk <| en_then <| en_region <| en_det (opT_add rfl rfl (by constructor <;> omega)) rfl <| en_det (opT_move rfl) rfl <| en_nil <| en_then <| ?_
        refine en_again (k + 1) ⟨by omega, fun i h1 h2 hi => ?_⟩ (by omega) ⟨rfl, rfl, rfl, rfl, gi rfl (by simp), trivial⟩ (.refl _) inferInstance
        rcases Nat.lt_succ_iff_lt_or_eq.1 hi with h3 | rfl
        · exact heq i h1 h2 h3
        · exact hx
      · skip
        refine en_skip <| en_then <| en_seq <| en_block <| en_seq <| en_region <| en_det (opT_move rfl) rfl <| ?_
        first | refine en_det (opT_idx1 rfl rfl (by omega) (by omega)) rfl ?_ | refine en_det (opT_idx (ks := 0) rfl rfl (by omega) (by omega)) rfl ?_
        first | refine en_det (opT_load_h rfl (by assumption)) rfl ?_ | refine en_det (opT_load_own rfl rfl) rfl ?_
        refine en_det (opT_assign rfl) rfl <| en_det (opT_assign rfl) rfl <| en_nil <| en_then <| en_seq <| en_region <| en_det (opT_move rfl) rfl <| en_det (opT_move rfl) rfl <| en_det (opT_move rfl) rfl <| ?_
        first | refine en_det (opT_idx1 rfl rfl (by omega) (by omega)) rfl ?_ | refine en_det (opT_idx (ks := 0) rfl rfl (by omega) (by omega)) rfl ?_
        first | refine en_det (opT_load_h rfl (by assumption)) rfl ?_ | refine en_det (opT_load_own rfl rfl) rfl ?_
        refine en_det (opT_neq_t rfl rfl (by omega)) rfl <| en_nil <| en_then <| en_cond_t rfl <| en_seq <| en_region <| en_det (opT_assign rfl) rfl <| en_nil <| en_then <| en_ret <| en_blk_ret <| en_then_ret <| en_then_ret <| en_blk_ret <| en_then_ret <| ?_
        have hne : l ≠ r := fun e => hx (by subst e; rfl)
        refine en_return (rs := [.tmp 4]) rfl (.cons (.tmp rfl) .nil) (.refl _) ⟨by rw [decide_eq_false hne]; rfl, rfl⟩
    · skip
      obtain rfl : k = l.length := by omega
      have he : l = r := List.ext_getElem hlen fun i h1 h2 => heq i h1 h2 h1
      refine en_exit <| en_then_exit <| en_then_exit <| en_blk_hit <| en_then <| en_seq <| en_region <| en_det (opT_assign rfl) rfl <| en_nil <| en_then <| en_ret <| ?_
      refine en_return (rs := [.tmp 4]) rfl (.cons (.tmp rfl) .nil) (.refl _) ⟨by rw [decide_eq_true he]; rfl, rfl⟩
  · skip
    refine en_seq <| en_region <| en_det (opT_assign rfl) rfl <| en_nil <| en_then <| en_seq <| en_seq <| en_region <| en_det (opT_move rfl) rfl <| en_det (opT_len rfl) rfl <| en_det (opT_move rfl) rfl <| en_det (opT_len rfl) rfl <| en_det (opT_neq_t rfl rfl (by omega)) rfl <| en_nil <| en_then <| en_cond_t rfl <| en_seq <| en_region <| en_det (opT_assign rfl) rfl <| en_nil <| en_then <| en_ret <| en_then_ret <| ?_
    have hne : l ≠ r := fun e => hlen (by rw [e])
    refine en_return (rs := [.tmp 4]) rfl (.cons (.tmp rfl) .nil) (.refl _) ⟨by rw [decide_eq_false hne]; rfl, rfl⟩
theorem alike57_ct (h : Heap) (v u : Value) (l r : List Int) (hv : IsInts h v l) (hu : IsInts h u r) : CT Try.prog 57 [v, u] h [] (DetW (.bool (decide (l = r))) []) := by
  obtain ⟨ad, cp, rfl, hl, hc, hp⟩ := hv.shape
  obtain ⟨ad', cp', rfl, hl', hc', hp'⟩ := hu.shape
  refine ct_intro Try.func57 rfl rfl rfl rfl fun Φ => ?_
  skip
  by_cases hlen : l.length = r.length
  · refine en_seq <| en_region <| en_det (opT_assign rfl) rfl <| en_nil <| en_then <| en_seq <| en_seq <| en_region <| en_det (opT_move rfl) rfl <| en_det (opT_len rfl) rfl <| en_det (opT_move rfl) rfl <| en_det (opT_len rfl) rfl <| en_det (opT_neq_f rfl rfl (by omega)) rfl <| en_nil <| en_then <| en_cond_f rfl <| en_skip <| en_then <| en_seq <| en_seq <| en_region <| en_det (opT_move rfl) rfl <| en_det (opT_len rfl) rfl <| en_det (opT_move rfl) rfl <| en_nil <| en_then <| en_block <| ?_
    refine en_loop (fun k => k ≤ l.length ∧ ∀ i (hi : i < l.length) (hi' : i < r.length), i < k → l[i] = r[i]) (fun k : Nat => [(0, .slice ad l.length cp), (1, .slice ad' r.length cp'), (12, .slice ad l.length cp), (13, .int .i64 l.length), (14, .int .i64 k)]) (fun _ => h) (fun _ => []) (fun k => l.length - k) 0 ⟨by omega, fun i _ _ hi => by omega⟩ ⟨rfl, rfl, rfl, rfl, rfl, trivial⟩ (.refl _) inferInstance fun k ⟨hk, heq⟩ => ?_
    refine en_seq <| en_region <| ?_
    first | refine en_det (opT_lss_t rfl rfl (by omega)) rfl ?_ | refine en_det (opT_lss_f rfl rfl (by omega)) rfl ?_ | refine en_det (opT_lss rfl rfl) rfl ?_
    refine en_nil <| en_then <| en_seq <| ?_
    refine en_if rfl (fun hlt => ?_) (fun hlt => ?_)
    · skip
      have hkl : k < l.length := by omega
      have hkr : k < r.length := by omega
      obtain ⟨b, off, rfl, hcc⟩ := hp (by omega)
      have hck := hcc k hkl
      obtain ⟨b', off', rfl, hcc'⟩ := hp' (by omega)
      have hck' := hcc' k hkr
      skip
      by_cases hx : l[k] = r[k]
      · refine en_skip <| en_then <| en_seq <| en_block <| en_seq <| en_region <| en_det (opT_move rfl) rfl <| ?_
        first | refine en_det (opT_idx1 rfl rfl (by omega) (by omega)) rfl ?_ | refine en_det (opT_idx (ks := 0) rfl rfl (by omega) (by omega)) rfl ?_
        first | refine en_det (opT_load_h rfl (by assumption)) rfl ?_ | refine en_det (opT_load_own rfl rfl) rfl ?_
        refine en_det (opT_assign rfl) rfl <| en_det (opT_assign rfl) rfl <| en_nil <| en_then <| en_seq <| en_region <| en_det (opT_move rfl) rfl <| en_det (opT_move rfl) rfl <| en_det (opT_move rfl) rfl <| ?_
        first | refine en_det (opT_idx1 rfl rfl (by omega) (by omega)) rfl ?_ | refine en_det (opT_idx (ks := 0) rfl rfl (by omega) (by omega)) rfl ?_
        first | refine en_det (opT_load_h rfl (by assumption)) rfl ?_ | refine en_det (opT_load_own rfl rfl) rfl ?_
        refine en_det (opT_neq_f rfl rfl (by omega)) rfl <| en_nil <| en_then <| en_cond_f rfl <| en_skip <| en_blk <| en_then <| en_region <| en_det (opT_add rfl rfl (by constructor <;> omega)) rfl <| en_det (opT_move rfl) rfl <| en_nil <| en_then <| ?_
        refine en_again (k + 1) ⟨by omega, fun i h1 h2 hi => ?_⟩ (by omega) ⟨rfl, rfl, rfl, rfl, gi rfl (by simp), trivial⟩ (.refl _) inferInstance
        rcases Nat.lt_succ_iff_lt_or_eq.1 hi with h3 | rfl
        · exact heq i h1 h2 h3
        · exact hx
      · skip
        refine en_skip <| en_then <| en_seq <| en_block <| en_seq <| en_region <| en_det (opT_move rfl) rfl <| ?_
        first | refine en_det (opT_idx1 rfl rfl (by omega) (by omega)) rfl ?_ | refine en_det (opT_idx (ks := 0) rfl rfl (by omega) (by omega)) rfl ?_
        first | refine en_det (opT_load_h rfl (by assumption)) rfl ?_ | refine en_det (opT_load_own rfl rfl) rfl ?_
        refine en_det (opT_assign rfl) rfl <| en_det (opT_assign rfl) rfl <| en_nil <| en_then <| en_seq <| en_region <| en_det (opT_move rfl) rfl <| en_det (opT_move rfl) rfl <| en_det (opT_move rfl) rfl <| ?_
        first | refine en_det (opT_idx1 rfl rfl (by omega) (by omega)) rfl ?_ | refine en_det (opT_idx (ks := 0) rfl rfl (by omega) (by omega)) rfl ?_
        first | refine en_det (opT_load_h rfl (by assumption)) rfl ?_ | refine en_det (opT_load_own rfl rfl) rfl ?_
        refine en_det (opT_neq_t rfl rfl (by omega)) rfl <| en_nil <| en_then <| en_cond_t rfl <| en_seq <| en_region <| en_det (opT_assign rfl) rfl <| en_nil <| en_then <| en_ret <| en_blk_ret <| en_then_ret <| en_then_ret <| en_blk_ret <| en_then_ret <| ?_
        have hne : l ≠ r := fun e => hx (by subst e; rfl)
        refine en_return (rs := [.tmp 4]) rfl (.cons (.tmp rfl) .nil) (.refl _) ⟨by rw [decide_eq_false hne]; rfl, rfl⟩
    · skip
      obtain rfl : k = l.length := by omega
      have he : l = r := List.ext_getElem hlen fun i h1 h2 => heq i h1 h2 h1
      refine en_exit <| en_then_exit <| en_then_exit <| en_blk_hit <| en_then <| en_seq <| en_region <| en_det (opT_assign rfl) rfl <| en_nil <| en_then <| en_ret <| ?_
      refine en_return (rs := [.tmp 4]) rfl (.cons (.tmp rfl) .nil) (.refl _) ⟨by rw [decide_eq_true he]; rfl, rfl⟩
  · skip
    refine en_seq <| en_region <| en_det (opT_assign rfl) rfl <| en_nil <| en_then <| en_seq <| en_seq <| en_region <| en_det (opT_move rfl) rfl <| en_det (opT_len rfl) rfl <| en_det (opT_move rfl) rfl <| en_det (opT_len rfl) rfl <| en_det (opT_neq_t rfl rfl (by omega)) rfl <| en_nil <| en_then <| en_cond_t rfl <| en_seq <| en_region <| en_det (opT_assign rfl) rfl <| en_nil <| en_then <| en_ret <| en_then_ret <| ?_
    have hne : l ≠ r := fun e => hlen (by rw [e])
    refine en_return (rs := [.tmp 4]) rfl (.cons (.tmp rfl) .nil) (.refl _) ⟨by rw [decide_eq_false hne]; rfl, rfl⟩

def row5 (t : Nat → Int) : List Int := (List.range 5).map t
def alikeT (n1 : Nat) (t1 : Nat → Nat → Int) (n2 : Nat) (t2 : Nat → Nat → Int) : Bool := decide (n1 = n2) && allI n1 fun i => decide (row5 (t1 i) = row5 (t2 i))
theorem alike65_ct (h : Heap) (v u : Value) (n1 n2 : Nat) (t1 t2 : Nat → Nat → Int) (hv : IsTrays h v n1 t1) (hu : IsTrays h u n2 t2) : CT Try.prog 65 [v, u] h [] (DetW (.bool (alikeT n1 t1 n2 t2)) []) := by
  obtain ⟨_, ad, cp, rfl, hl, hc, hp⟩ := hv
  obtain ⟨_, ad', cp', rfl, hl', hc', hp'⟩ := hu
  unfold alikeT
  refine ct_intro Try.func65 rfl rfl rfl rfl fun Φ => ?_
  skip
  by_cases hlen : n1 = n2
  · subst hlen
    rw [decide_eq_true rfl, Bool.true_and]
    refine en_seq <| en_region <| en_det (opT_assign rfl) rfl <| en_nil <| en_then <| en_seq <| en_seq <| en_region <| en_det (opT_move rfl) rfl <| en_det (opT_len rfl) rfl <| en_det (opT_move rfl) rfl <| en_det (opT_len rfl) rfl <| en_det (opT_neq_f rfl rfl (by omega)) rfl <| en_nil <| en_then <| en_cond_f rfl <| en_skip <| en_then <| en_seq <| en_seq <| en_region <| en_det (opT_move rfl) rfl <| en_det (opT_len rfl) rfl <| en_det (opT_move rfl) rfl <| en_nil <| en_then <| en_block <| ?_
    refine en_loop (fun k => k ≤ n1 ∧ ∀ i, i < k → decide (row5 (t1 i) = row5 (t2 i)) = true) (fun k : Nat => [(0, .slice ad n1 cp), (1, .slice ad' n1 cp'), (12, .slice ad n1 cp), (13, .int .i64 n1), (14, .int .i64 k)]) (fun _ => h) (fun _ => []) (fun k => n1 - k) 0 ⟨by omega, fun i hi => by omega⟩ ⟨rfl, rfl, rfl, rfl, rfl, trivial⟩ (.refl _) inferInstance fun k ⟨hk, heq⟩ => ?_
    refine en_seq <| en_region <| ?_
    first | refine en_det (opT_lss_t rfl rfl (by omega)) rfl ?_ | refine en_det (opT_lss_f rfl rfl (by omega)) rfl ?_ | refine en_det (opT_lss rfl rfl) rfl ?_
    refine en_nil <| en_then <| en_seq <| ?_
    refine en_if rfl (fun hlt => ?_) (fun hlt => ?_)
    · skip
      have hkl : k < n1 := by omega
      obtain ⟨b, off, rfl, hcc⟩ := hp (by omega)
      have hck := hcc.row hkl
      obtain ⟨b', off', rfl, hcc'⟩ := hp' (by omega)
      have hck' := hcc'.row hkl
      cases hx : decide (row5 (t1 k) ≠ row5 (t2 k)) with
      | false =>
        skip
        refine en_skip <| en_then <| en_seq <| en_block <| en_seq <| en_region <| en_det (opT_move rfl) rfl <| ?_
        first | refine en_det (opT_idx1 rfl rfl (by omega) (by omega)) rfl ?_ | refine en_det (opT_idx (ks := 0) rfl rfl (by omega) (by omega)) rfl ?_
        refine en_det (opT_loadA_h rfl hck rfl) rfl <| en_alloc rfl fun b6 => ?_
        refine en_det (opT_assign rfl) rfl <| en_det0 (opT_storeW rfl rfl rfl rfl (one_trayL (t1 k))) <| en_nil <| en_then <| en_seq <| en_draw0 [0, 1, 2, 3, 4, 5] (by kernel_rfl) (by decide +kernel) (by decide +kernel) (by decide) <| ?_
        first | refine dp_q rfl (opT_loadW_own rfl rfl) rfl rfl rfl ?_ | refine dp_q rfl (opT_loadA_own rfl) rfl rfl rfl ?_
        refine dp_p rfl (fun _ _ => opT_move rfl) rfl rfl rfl <| dp_p rfl (fun _ _ => opT_move rfl) rfl rfl rfl <| ?_
        first | refine dp_p rfl (fun _ _ => opT_idx1 rfl rfl (by omega) (by omega)) rfl rfl rfl ?_ | refine dp_p rfl (fun _ _ => opT_idx (ks := 0) rfl rfl (by omega) (by omega)) rfl rfl rfl ?_
        refine dp_q rfl (opT_loadA_h rfl hck' rfl) rfl rfl rfl <| dp_p rfl (fun _ _ => (hx ▸ opT_neArr (xs := row5 (t1 k)) (ys := row5 (t2 k)) (mk := Value.int .i64) (fun w dep a b => eq_ints (P := Try.prog) (e := 3) inferInstance w dep a b) eg31 rfl rfl rfl rfl)) rfl rfl rfl <| dp_done0 <| en_then <| en_cond_f rfl <| en_skip <| en_blk <| en_then <| en_region <| en_det (opT_add rfl rfl (by constructor <;> omega)) rfl <| en_det (opT_move rfl) rfl <| en_nil <| en_then <| ?_
        refine en_again (k + 1) ⟨by omega, fun i hi => ?_⟩ (by omega) ⟨rfl, rfl, rfl, rfl, gi rfl (by simp), trivial⟩ (.refl _) inferInstance
        rcases Nat.lt_succ_iff_lt_or_eq.1 hi with h3 | rfl
        · exact heq i h3
        · simpa using hx
      | true =>
        refine en_skip <| en_then <| en_seq <| en_block <| en_seq <| en_region <| en_det (opT_move rfl) rfl <| ?_
        first | refine en_det (opT_idx1 rfl rfl (by omega) (by omega)) rfl ?_ | refine en_det (opT_idx (ks := 0) rfl rfl (by omega) (by omega)) rfl ?_
        refine en_det (opT_loadA_h rfl hck rfl) rfl <| en_alloc rfl fun b6 => ?_
        refine en_det (opT_assign rfl) rfl <| en_det0 (opT_storeW rfl rfl rfl rfl (one_trayL (t1 k))) <| en_nil <| en_then <| en_seq <| en_draw0 [0, 1, 2, 3, 4, 5] (by kernel_rfl) (by decide +kernel) (by decide +kernel) (by decide) <| ?_
        first | refine dp_q rfl (opT_loadW_own rfl rfl) rfl rfl rfl ?_ | refine dp_q rfl (opT_loadA_own rfl) rfl rfl rfl ?_
        refine dp_p rfl (fun _ _ => opT_move rfl) rfl rfl rfl <| dp_p rfl (fun _ _ => opT_move rfl) rfl rfl rfl <| ?_
        first | refine dp_p rfl (fun _ _ => opT_idx1 rfl rfl (by omega) (by omega)) rfl rfl rfl ?_ | refine dp_p rfl (fun _ _ => opT_idx (ks := 0) rfl rfl (by omega) (by omega)) rfl rfl rfl ?_
        refine dp_q rfl (opT_loadA_h rfl hck' rfl) rfl rfl rfl <| dp_p rfl (fun _ _ => (hx ▸ opT_neArr (xs := row5 (t1 k)) (ys := row5 (t2 k)) (mk := Value.int .i64) (fun w dep a b => eq_ints (P := Try.prog) (e := 3) inferInstance w dep a b) eg31 rfl rfl rfl rfl)) rfl rfl rfl <| dp_done0 <| en_then <| en_cond_t rfl <| en_seq <| en_region <| en_det (opT_assign rfl) rfl <| en_nil <| en_then <| en_ret <| en_blk_ret <| en_then_ret <| en_then_ret <| en_blk_ret <| en_then_ret <| ?_
        have hne : (allI n1 fun i => decide (row5 (t1 i) = row5 (t2 i))) = false := by
          rw [← Bool.not_eq_true, allI_iff]
          intro hy; have := hy k hkl; simp at this hx; exact hx this
        refine en_return (rs := [.tmp 4]) rfl (.cons (.tmp rfl) .nil) (.refl _) ⟨by rw [hne]; rfl, rfl⟩
    · skip
      obtain rfl : k = n1 := by omega
      have he := allI_iff.2 heq
      refine en_exit <| en_then_exit <| en_then_exit <| en_blk_hit <| en_then <| en_seq <| en_region <| en_det (opT_assign rfl) rfl <| en_nil <| en_then <| en_ret <| ?_
      refine en_return (rs := [.tmp 4]) rfl (.cons (.tmp rfl) .nil) (.refl _) ⟨by rw [he]; rfl, rfl⟩
  · rw [decide_eq_false hlen, Bool.false_and]
    refine en_seq <| en_region <| en_det (opT_assign rfl) rfl <| en_nil <| en_then <| en_seq <| en_seq <| en_region <| en_det (opT_move rfl) rfl <| en_det (opT_len rfl) rfl <| en_det (opT_move rfl) rfl <| en_det (opT_len rfl) rfl <| en_det (opT_neq_t rfl rfl (by omega)) rfl <| en_nil <| en_then <| en_cond_t rfl <| en_seq <| en_region <| en_det (opT_assign rfl) rfl <| en_nil <| en_then <| en_ret <| en_then_ret <| ?_
    refine en_return (rs := [.tmp 4]) rfl (.cons (.tmp rfl) .nil) (.refl _) ⟨rfl, rfl⟩
end Go.Sx

/- The belt of the examples. -/
namespace Go.Sx
open Go.Proofs
set_option maxRecDepth 100000
def tableT (l : List (List Int)) : Nat → Nat → Int := fun i m => (l.getD i []).getD m 0
def twoT : Nat → Nat → Int := tableT [[6, 4, 2], [3, 5]]
def twoH : Nat → HandD := fun i => if i = 0 then ⟨fun m => m == 0 || m == 1, 8, 2, 10, []⟩ else ⟨fun m => m == 0 || m == 2, 3, 0, 0, []⟩
def twoB : BeltD := ⟨2, twoT, 2, twoH⟩
def boolL (t : Nat → Bool) : List Value := row 5 fun m => .bool (t m)
attribute [local irreducible] Code.wpIn wpListIn Exit.then Exit.inBlock BQ Again Hd St En OpT box blk RQ BQ0 fmap own Desk
theorem two_ct (h : Heap) : CT Try.prog 72 [] h [] (fun v h' Γ' => IsBelt h' v twoB ∧ Γ' = []) := by
  refine ct_intro Try.func72 rfl rfl rfl rfl fun Φ => ?_
  refine en_seq <| en_region <| en_alloc rfl fun b0 => ?_
  refine en_nil <| en_then <| en_seq <| en_region <| en_det (opT_build (cs := trayL (twoT 0)) rfl (by kernel_rfl)) rfl <| en_det (opT_build (cs := trayL (twoT 1)) rfl (by kernel_rfl)) rfl <| ?_
  refine en_op (opT_buildSlice (cs := rows 2 5 (icell twoT)) rfl rfl (by kernel_rfl)) rfl fun _ _ _ _ ⟨b3, e1, e2, e3⟩ => ?_
  subst e1 e3; replace e2 := e2.symm; subst e2
  refine en_det (opT_build (cs := boolL (twoH 0).takes) rfl (by kernel_rfl)) rfl <| en_det (opT_build (cs := handL (twoH 0) nilS) rfl (by kernel_rfl)) rfl <| en_det (opT_build (cs := boolL (twoH 1).takes) rfl (by kernel_rfl)) rfl <| en_det (opT_build (cs := handL (twoH 1) nilS) rfl (by kernel_rfl)) rfl <| ?_
  refine en_op (opT_buildSlice (cs := rows 2 9 (fun i => hcell (twoH i) nilS)) rfl rfl (by kernel_rfl)) rfl fun _ _ _ _ ⟨b8, e1, e2, e3⟩ => ?_
  subst e1 e3; replace e2 := e2.symm; subst e2
  refine en_det (opT_build (cs := [.slice (some ⟨b3, 0, none⟩) 2 2, .slice (some ⟨b8, 0, none⟩) 2 2]) rfl (by kernel_rfl)) rfl <| en_det0 (opT_storeW rfl rfl rfl rfl (by simp [Value.oneCell'])) <| en_nil <| en_then <| en_ret <| ?_
  refine en_pick (box b3 31 (rows 2 5 (icell twoT))) ?_
  refine en_fzb fun h1 hs1 hb1 => ?_
  refine en_pick (box b8 41 (rows 2 9 (fun i => hcell (twoH i) nilS))) ?_
  refine en_fzb fun h2 hs2 hb2 => ?_
  refine en_return (rs := [.cell 0 26]) rfl (.cons (res_cellA rfl rfl) .nil) (hs1.trans hs2) (Γ1 := []) ⟨⟨_, _, rfl, (slH_box hb1 (rows_length _ _ _) (by omega)).mono hs2, fun _ => nilS, slH_box hb2 (rows_length _ _ _) (by omega), fun i _ => ?_⟩, rfl⟩
  have : (twoH i).rests = [] := by unfold twoH; split <;> rfl
  show IsInts h2 nilS (twoH i).rests
  rw [this]; exact SlH.nil _ _
end Go.Sx

/- The examples of the chapter. -/
namespace Go.Sx
open Go.Proofs
set_option maxRecDepth 100000
def leftOne : Nat → Int := fun m => if m = 0 then 1 else 0
def leftNo : Nat → Int := fun _ => 0
theorem aw1 : checkD twoB = 0 := by decide +kernel
theorem aw2 : alikeT 2 (ruleN twoB.hand twoB.tray (allH twoB) twoB.nt).1 2 (tableT [[0, 2], [0, 2]]) = true := by decide +kernel
theorem aw3 : alikeT 2 (ruleN twoB.hand twoB.tray (allH twoB) twoB.nt).2 2 (tableT [[9, 5], [0, 0, 2]]) = true := by decide +kernel
theorem aw4 : wrongL twoB = [2, 0] := by decide +kernel
theorem aw5 : mostL twoB = [11, 8] := by decide +kernel
theorem aw6 : mostA twoB = 19 := by decide +kernel
theorem aw7 : upE twoB leftNo 0 [0, 1, 2] = 0 ∧ upN twoB leftNo 0 (bitsOf [0, 1, 2]) = 1 := by decide +kernel
theorem aw8 : bdE twoB 0 [0, 1, 2] = 0 ∧ bdN twoB 0 (bitsOf [0, 1, 2]) = 11 := by decide +kernel
theorem aw9 : lineB twoB = ([1, 0], 2) := by decide +kernel
theorem aw10 : keptE twoB leftOne = 0 ∧ fewB twoB leftOne = ([0, 1], true) := by decide +kernel
attribute [local irreducible] Code.wpIn wpListIn Exit.then Exit.inBlock BQ Again Hd St En OpT box blk RQ BQ0 fmap own Desk
theorem awake_ct (h : Heap) : CT Try.prog 20 [] h [] (DetW (.bool true) []) := by
  refine ct_intro Try.func20 rfl rfl rfl rfl fun Φ => ?_
  refine en_seq <| en_region <| en_det (opT_assign rfl) rfl <| en_nil <| en_then <| en_seq <| en_region <| ?_
  refine en_call (two_ct h) rfl rfl rfl rfl fun v h1 Γ' s1 hv' => ?_
  obtain ⟨hB, rfl⟩ := hv'
  refine en_norm ?_
  obtain ⟨tv, hv, rfl, hT0, hH0⟩ := id hB
  obtain ⟨_, tad, tcp, rfl, _, _, _⟩ := hT0
  obtain ⟨rv, ⟨_, had, hcp, rfl, _, _, _⟩, _⟩ := hH0
  refine en_alloc rfl fun b1 => ?_
  refine en_det0 (opT_storeW rfl rfl rfl rfl (by simp [Value.oneCell'])) <| en_nil <| en_then <| en_seq <| en_region <| ?_
  first | refine en_det (opT_loadW_own rfl rfl) rfl ?_ | refine en_det (opT_loadA_own rfl) rfl ?_
  refine en_call (run28_ct h1 _ _ twoB hB) rfl rfl rfl rfl fun v h2 Γ' s2 hv' => ?_
  obtain ⟨rfl, ⟨_, lv, rfl, hl⟩ | ⟨hne, _⟩⟩ := hv'
  case inr => exact absurd aw1 hne
  refine en_norm ?_
  have B2 := hB.mono s2
  refine en_det (opT_move rfl) rfl <| en_det (opT_extract rfl rfl) rfl <| en_det (opT_extract rfl rfl) rfl <| en_det (opT_assign rfl) rfl <| en_det (opT_assign rfl) rfl <| en_nil <| en_then <| en_seq <| en_region <| ?_
  first | refine en_det (opT_loadW_own rfl rfl) rfl ?_ | refine en_det (opT_loadA_own rfl) rfl ?_
  refine en_call (run29_ct h2 _ _ twoB B2) rfl rfl rfl rfl fun v h3 Γ' s3 hv' => ?_
  obtain ⟨rfl, ⟨_, pv, rfl, hpv⟩ | ⟨hne, _⟩⟩ := hv'
  case inr => exact absurd aw1 hne
  refine en_norm ?_
  have B3 := B2.mono s3
  refine en_det (opT_move rfl) rfl <| en_det (opT_extract rfl rfl) rfl <| en_det (opT_extract rfl rfl) rfl <| en_det (opT_assign rfl) rfl <| en_det (opT_assign rfl) rfl <| en_nil <| en_then <| en_seq <| en_region <| ?_
  first | refine en_det (opT_loadW_own rfl rfl) rfl ?_ | refine en_det (opT_loadA_own rfl) rfl ?_
  refine en_call (wrong_ct h3 _ _ twoB B3) rfl rfl rfl rfl fun v h4 Γ' s4 hv' => ?_
  obtain ⟨rfl, ⟨_, wv, rfl, hw⟩ | ⟨hne, _⟩⟩ := hv'
  case inr => exact absurd aw1 hne
  refine en_norm ?_
  have B4 := B3.mono s4
  refine en_det (opT_move rfl) rfl <| en_det (opT_extract rfl rfl) rfl <| en_det (opT_extract rfl rfl) rfl <| en_det (opT_assign rfl) rfl <| en_det (opT_assign rfl) rfl <| en_nil <| en_then <| en_seq <| en_region <| ?_
  first | refine en_det (opT_loadW_own rfl rfl) rfl ?_ | refine en_det (opT_loadA_own rfl) rfl ?_
  refine en_call (most21_ct h4 _ _ twoB B4) rfl rfl rfl rfl fun v h5 Γ' s5 hv' => ?_
  obtain ⟨rfl, ⟨_, mv, rfl, hm⟩ | ⟨hne, _⟩⟩ := hv'
  case inr => exact absurd aw1 hne
  refine en_norm ?_
  have B5 := B4.mono s5
  rw [aw4] at hw
  rw [aw5] at hm
  rw [aw6]
  refine en_det (opT_move rfl) rfl <| en_det (opT_extract rfl rfl) rfl <| en_det (opT_extract rfl rfl) rfl <| en_det (opT_extract rfl rfl) rfl <| en_det (opT_assign rfl) rfl <| en_det (opT_assign rfl) rfl <| en_det (opT_assign rfl) rfl <| en_nil <| en_then <| en_seq <| en_seq <| en_region <| en_det (opT_move rfl) rfl <| en_det (opT_neq_f rfl rfl (by omega)) rfl <| en_det (opT_move rfl) rfl <| en_g_yes rfl rfl <| en_det (opT_move rfl) rfl <| en_g_yes rfl rfl <| en_det (opT_neq_f rfl rfl (by omega)) rfl <| ?_
  first | refine en_det (opT_pick_t rfl rfl) rfl ?_ | refine en_det (opT_pick_f rfl rfl) rfl ?_
  refine en_det (opT_move rfl) rfl <| en_g_yes rfl rfl <| en_det (opT_move rfl) rfl <| en_g_yes rfl rfl <| en_det (opT_neq_f rfl rfl (by omega)) rfl <| ?_
  first | refine en_det (opT_pick_t rfl rfl) rfl ?_ | refine en_det (opT_pick_f rfl rfl) rfl ?_
  refine en_det (opT_move rfl) rfl <| en_g_yes rfl rfl <| en_det (opT_move rfl) rfl <| en_g_yes rfl rfl <| en_det (opT_neq_f rfl rfl (by omega)) rfl <| ?_
  first | refine en_det (opT_pick_t rfl rfl) rfl ?_ | refine en_det (opT_pick_f rfl rfl) rfl ?_
  refine en_det (opT_move rfl) rfl <| en_g_yes rfl rfl <| en_det (opT_move rfl) rfl <| en_g_yes rfl rfl <| en_det (opT_build (cs := trayL (tableT [[0, 2], [0, 2]] 0)) rfl (by kernel_rfl)) rfl <| en_g_yes rfl rfl <| en_det (opT_build (cs := trayL (tableT [[0, 2], [0, 2]] 1)) rfl (by kernel_rfl)) rfl <| en_g_yes rfl rfl <| ?_
  refine en_op (opT_buildSlice (cs := rows 2 5 (icell (tableT [[0, 2], [0, 2]]))) rfl rfl (by kernel_rfl)) rfl fun _ _ _ _ ⟨b57, e1, e2, e3⟩ => ?_
  subst e1 e3; replace e2 := e2.symm; subst e2
  refine en_fzb fun h6 s6 hb6 => ?_
  have c65 := alike65_ct h6 lv _ 2 2 _ (tableT [[0, 2], [0, 2]]) (hl.mono (s3.trans (s4.trans (s5.trans s6)))) (slH_box hb6 (rows_length _ _ _) (by omega))
  rw [aw2] at c65
  refine en_g_yes rfl rfl <| en_calld (c65) rfl rfl rfl rfl <| en_g_yes rfl rfl <| ?_
  first | refine en_det (opT_not_t rfl) rfl ?_ | refine en_det (opT_not_f rfl) rfl ?_ | refine en_det (opT_not rfl) rfl ?_
  first | refine en_det (opT_pick_t rfl rfl) rfl ?_ | refine en_det (opT_pick_f rfl rfl) rfl ?_
  refine en_det (opT_move rfl) rfl <| en_g_yes rfl rfl <| en_det (opT_move rfl) rfl <| en_g_yes rfl rfl <| en_det (opT_build (cs := trayL (tableT [[9, 5], [0, 0, 2]] 0)) rfl (by kernel_rfl)) rfl <| en_g_yes rfl rfl <| en_det (opT_build (cs := trayL (tableT [[9, 5], [0, 0, 2]] 1)) rfl (by kernel_rfl)) rfl <| en_g_yes rfl rfl <| ?_
  refine en_op (opT_buildSlice (cs := rows 2 5 (icell (tableT [[9, 5], [0, 0, 2]]))) rfl rfl (by kernel_rfl)) rfl fun _ _ _ _ ⟨b65, e1, e2, e3⟩ => ?_
  subst e1 e3; replace e2 := e2.symm; subst e2
  refine en_fzb fun h7 s7 hb7 => ?_
  have c66 := alike65_ct h7 pv _ 2 2 _ (tableT [[9, 5], [0, 0, 2]]) (hpv.mono (s4.trans (s5.trans (s6.trans s7)))) (slH_box hb7 (rows_length _ _ _) (by omega))
  rw [aw3] at c66
  refine en_g_yes rfl rfl <| en_calld (c66) rfl rfl rfl rfl <| en_g_yes rfl rfl <| ?_
  first | refine en_det (opT_not_t rfl) rfl ?_ | refine en_det (opT_not_f rfl) rfl ?_ | refine en_det (opT_not rfl) rfl ?_
  first | refine en_det (opT_pick_t rfl rfl) rfl ?_ | refine en_det (opT_pick_f rfl rfl) rfl ?_
  refine en_det (opT_move rfl) rfl <| en_g_yes rfl rfl <| en_det (opT_move rfl) rfl <| en_g_yes rfl rfl <| ?_
  refine en_op (opT_buildSlice (cs := [.int .i64 2, .int .i64 0]) rfl rfl (by kernel_rfl)) rfl fun _ _ _ _ ⟨b71, e1, e2, e3⟩ => ?_
  subst e1 e3; replace e2 := e2.symm; subst e2
  refine en_fzb fun h8 s8 hb8 => ?_
  have c48 := alike48_ct h8 wv _ [2, 0] [2, 0] (hw.mono (s5.trans (s6.trans (s7.trans s8)))) (slH_box hb8 rfl (by decide))
  rw [decide_eq_true rfl] at c48
  refine en_g_yes rfl rfl <| en_calld (c48) rfl rfl rfl rfl <| en_g_yes rfl rfl <| ?_
  first | refine en_det (opT_not_t rfl) rfl ?_ | refine en_det (opT_not_f rfl) rfl ?_ | refine en_det (opT_not rfl) rfl ?_
  first | refine en_det (opT_pick_t rfl rfl) rfl ?_ | refine en_det (opT_pick_f rfl rfl) rfl ?_
  refine en_det (opT_move rfl) rfl <| en_g_yes rfl rfl <| en_det (opT_move rfl) rfl <| en_g_yes rfl rfl <| ?_
  refine en_op (opT_buildSlice (cs := [.int .i64 11, .int .i64 8]) rfl rfl (by kernel_rfl)) rfl fun _ _ _ _ ⟨b77, e1, e2, e3⟩ => ?_
  subst e1 e3; replace e2 := e2.symm; subst e2
  refine en_fzb fun h9 s9 hb9 => ?_
  have c49 := alike48_ct h9 mv _ [11, 8] [11, 8] (hm.mono (s6.trans (s7.trans (s8.trans s9)))) (slH_box hb9 rfl (by decide))
  rw [decide_eq_true rfl] at c49
  refine en_g_yes rfl rfl <| en_calld (c49) rfl rfl rfl rfl <| en_g_yes rfl rfl <| ?_
  first | refine en_det (opT_not_t rfl) rfl ?_ | refine en_det (opT_not_f rfl) rfl ?_ | refine en_det (opT_not rfl) rfl ?_
  first | refine en_det (opT_pick_t rfl rfl) rfl ?_ | refine en_det (opT_pick_f rfl rfl) rfl ?_
  refine en_det (opT_move rfl) rfl <| en_g_yes rfl rfl <| en_det (opT_move rfl) rfl <| en_g_yes rfl rfl <| en_det (opT_neq_f rfl rfl (by omega)) rfl <| ?_
  first | refine en_det (opT_pick_t rfl rfl) rfl ?_ | refine en_det (opT_pick_f rfl rfl) rfl ?_
  refine en_nil <| en_then <| en_cond_f rfl <| en_skip <| en_then <| en_seq <| en_region <| ?_
  refine en_keep [box b1 26 [.slice tad twoB.nt tcp, .slice had twoB.nh hcp]] ?_
  have B9 := B5.mono (s6.trans (s7.trans (s8.trans s9)))
  refine en_op (opT_buildSlice (cs := [.int .i64 0, .int .i64 1, .int .i64 2]) rfl rfl (by kernel_rfl)) rfl fun _ _ _ _ ⟨b85, e1, e2, e3⟩ => ?_
  subst e1 e3; replace e2 := e2.symm; subst e2
  refine en_fzb fun h10 s10 hb10 => ?_
  have B10 := B9.mono s10
  have hset : IsInts h10 (.slice (some ⟨b85, 0, none⟩) 3 3) [0, 1, 2] := slH_box (m := 3) hb10 rfl (by decide)
  have cU := heldup_ct h10 _ _ _ twoB leftNo 0 [0, 1, 2] B10 hset
  rw [aw7.1, if_pos rfl, show (0 : Int).toNat = 0 from rfl, aw7.2] at cU
  refine en_det (opT_assign rfl) rfl <| en_nil <| en_then <| en_seq <| en_region <| ?_
  first | refine en_det (opT_loadW_own rfl rfl) rfl ?_ | refine en_det (opT_loadA_own rfl) rfl ?_
  refine en_det (opT_build (cs := trayL leftNo) rfl (by kernel_rfl)) rfl <| en_det (opT_move rfl) rfl <| ?_
  refine en_call cU rfl rfl rfl rfl fun v h11 Γ' s11 hv' => ?_
  obtain ⟨rfl, rfl⟩ := hv'
  refine en_norm ?_
  have cB := bounds_ct h11 _ _ _ twoB 0 [0, 1, 2] (B10.mono s11) (hset.mono s11)
  rw [aw8.1, if_pos rfl, show (0 : Int).toNat = 0 from rfl, aw8.2] at cB
  refine en_det (opT_move rfl) rfl <| en_det (opT_extract rfl rfl) rfl <| en_det (opT_extract rfl rfl) rfl <| en_det (opT_assign rfl) rfl <| en_det (opT_assign rfl) rfl <| en_nil <| en_then <| en_seq <| en_region <| ?_
  first | refine en_det (opT_loadW_own rfl rfl) rfl ?_ | refine en_det (opT_loadA_own rfl) rfl ?_
  refine en_det (opT_move rfl) rfl <| ?_
  refine en_call cB rfl rfl rfl rfl fun v h12 Γ' s12 hv' => ?_
  obtain ⟨rfl, rfl⟩ := hv'
  refine en_norm ?_
  have B12 := B10.mono (s11.trans s12)
  refine en_det (opT_move rfl) rfl <| en_det (opT_extract rfl rfl) rfl <| en_det (opT_extract rfl rfl) rfl <| en_det (opT_assign rfl) rfl <| en_det (opT_assign rfl) rfl <| en_nil <| en_then <| en_seq <| en_region <| ?_
  first | refine en_det (opT_loadW_own rfl rfl) rfl ?_ | refine en_det (opT_loadA_own rfl) rfl ?_
  refine en_call (line_ct h12 _ _ twoB B12) rfl rfl rfl rfl fun v h13 Γ' s13 hv' => ?_
  obtain ⟨rfl, ⟨_, lv2, rfl, hl2⟩ | ⟨hne, _⟩⟩ := hv'
  case inr => exact absurd aw1 hne
  refine en_norm ?_
  rw [aw9] at hl2 ⊢
  have B13 := B12.mono s13
  refine en_det (opT_move rfl) rfl <| en_det (opT_extract rfl rfl) rfl <| en_det (opT_extract rfl rfl) rfl <| en_det (opT_extract rfl rfl) rfl <| en_det (opT_assign rfl) rfl <| en_det (opT_assign rfl) rfl <| en_det (opT_assign rfl) rfl <| en_nil <| en_then <| en_seq <| en_region <| ?_
  first | refine en_det (opT_loadW_own rfl rfl) rfl ?_ | refine en_det (opT_loadA_own rfl) rfl ?_
  refine en_det (opT_build (cs := trayL leftOne) rfl (by kernel_rfl)) rfl <| ?_
  refine en_call (fewest_ct h13 _ _ twoB leftOne B13) rfl rfl rfl rfl fun v h14 Γ' s14 hv' => ?_
  obtain ⟨rfl, ⟨_, hne, _⟩ | ⟨_, _, fv, rfl, hfv⟩ | ⟨hne, _⟩⟩ := hv'
  case inl => rw [aw10.2] at hne; cases hne
  case inr.inr => exact absurd aw10.1 hne
  refine en_norm ?_
  rw [aw10.2] at hfv
  refine en_det (opT_move rfl) rfl <| en_det (opT_extract rfl rfl) rfl <| en_det (opT_extract rfl rfl) rfl <| en_det (opT_assign rfl) rfl <| en_det (opT_assign rfl) rfl <| en_nil <| en_then <| en_seq <| en_region <| en_det (opT_move rfl) rfl <| en_det (opT_eql_t rfl rfl (by omega)) rfl <| en_det (opT_move rfl) rfl <| en_g_yes rfl rfl <| en_det (opT_move rfl) rfl <| en_g_yes rfl rfl <| en_det (opT_eql_t rfl rfl (by omega)) rfl <| ?_
  first | refine en_det (opT_pick_t rfl rfl) rfl ?_ | refine en_det (opT_pick_f rfl rfl) rfl ?_
  refine en_det (opT_move rfl) rfl <| en_g_yes rfl rfl <| en_det (opT_move rfl) rfl <| en_g_yes rfl rfl <| en_det (opT_eql_t rfl rfl (by omega)) rfl <| ?_
  first | refine en_det (opT_pick_t rfl rfl) rfl ?_ | refine en_det (opT_pick_f rfl rfl) rfl ?_
  refine en_det (opT_move rfl) rfl <| en_g_yes rfl rfl <| en_det (opT_move rfl) rfl <| en_g_yes rfl rfl <| en_det (opT_eql_t rfl rfl (by omega)) rfl <| ?_
  first | refine en_det (opT_pick_t rfl rfl) rfl ?_ | refine en_det (opT_pick_f rfl rfl) rfl ?_
  refine en_det (opT_move rfl) rfl <| en_g_yes rfl rfl <| en_det (opT_move rfl) rfl <| en_g_yes rfl rfl <| en_det (opT_eql_t rfl rfl (by omega)) rfl <| ?_
  first | refine en_det (opT_pick_t rfl rfl) rfl ?_ | refine en_det (opT_pick_f rfl rfl) rfl ?_
  refine en_det (opT_move rfl) rfl <| en_g_yes rfl rfl <| en_det (opT_move rfl) rfl <| en_g_yes rfl rfl <| en_det (opT_eql_t rfl rfl (by omega)) rfl <| ?_
  first | refine en_det (opT_pick_t rfl rfl) rfl ?_ | refine en_det (opT_pick_f rfl rfl) rfl ?_
  refine en_det (opT_move rfl) rfl <| en_g_yes rfl rfl <| en_det (opT_move rfl) rfl <| en_g_yes rfl rfl <| ?_
  refine en_op (opT_buildSlice (cs := [.int .i64 1, .int .i64 0]) rfl rfl (by kernel_rfl)) rfl fun _ _ _ _ ⟨b135, e1, e2, e3⟩ => ?_
  subst e1 e3; replace e2 := e2.symm; subst e2
  refine en_fzb fun h15 s15 hb15 => ?_
  have c1 := alike48_ct h15 lv2 _ [1, 0] [1, 0] (hl2.mono (s14.trans s15)) (slH_box hb15 rfl (by decide))
  rw [decide_eq_true rfl] at c1
  refine en_g_yes rfl rfl <| en_calld (c1) rfl rfl rfl rfl <| ?_
  first | refine en_det (opT_pick_t rfl rfl) rfl ?_ | refine en_det (opT_pick_f rfl rfl) rfl ?_
  refine en_det (opT_move rfl) rfl <| en_g_yes rfl rfl <| en_det (opT_move rfl) rfl <| en_g_yes rfl rfl <| en_det (opT_eql_t rfl rfl (by omega)) rfl <| ?_
  first | refine en_det (opT_pick_t rfl rfl) rfl ?_ | refine en_det (opT_pick_f rfl rfl) rfl ?_
  refine en_det (opT_move rfl) rfl <| en_g_yes rfl rfl <| en_det (opT_move rfl) rfl <| en_g_yes rfl rfl <| ?_
  refine en_op (opT_buildSlice (cs := [.int .i64 0, .int .i64 1]) rfl rfl (by kernel_rfl)) rfl fun _ _ _ _ ⟨b144, e1, e2, e3⟩ => ?_
  subst e1 e3; replace e2 := e2.symm; subst e2
  refine en_fzb fun h16 s16 hb16 => ?_
  have c2 := alike48_ct h16 fv _ [0, 1] [0, 1] (hfv.mono (s15.trans s16)) (slH_box hb16 rfl (by decide))
  rw [decide_eq_true rfl] at c2
  refine en_g_yes rfl rfl <| en_calld (c2) rfl rfl rfl rfl <| ?_
  first | refine en_det (opT_pick_t rfl rfl) rfl ?_ | refine en_det (opT_pick_f rfl rfl) rfl ?_
  refine en_det (opT_assign rfl) rfl <| en_nil <| en_then <| en_ret <| ?_
  refine en_return (rs := [.tmp 0]) rfl (.cons (.tmp rfl) .nil) (s1.trans (s2.trans (s3.trans (s4.trans (s5.trans (s6.trans (s7.trans (s8.trans (s9.trans (s10.trans (s11.trans (s12.trans (s13.trans (s14.trans (s15.trans s16))))))))))))))) ⟨rfl, rfl⟩
end Go.Sx

/- Numbers out of bytes. -/
namespace Go.Sx
open Go.Proofs
set_option maxRecDepth 100000
def chuteV (lv : Value) (used stir : Int) : List Value := [lv, .int .i64 used, .int .u64 stir]
/-- A chute over m bytes. -/
def Chute (c : Nat) (lv : Value) (m : Nat) : HP := fun k => ∃ used : Nat, ∃ stir : Int, (used ≤ m ∧ 0 ≤ stir ∧ stir < 18446744073709551616) ∧ box c 115 (chuteV lv used stir) k
def IsBytes (h : Heap) (v : Value) (l : List Int) : Prop := SlH h 1 v l.length (l.map (Value.int .u8)) ∧ (∀ x ∈ l, 0 ≤ x ∧ x ≤ 255) ∧ l.length ≤ 140737488355328
theorem IsBytes.mono {h k : Heap} (s : h.sub k) {v : Value} {l : List Int} (x : IsBytes h v l) : IsBytes k v l := ⟨x.1.mono s, x.2⟩
section
variable {n : Nat} {Φ : Fr} {Tt : Act → World → Prop} {ρ : Env} {h : Heap} {Γ : List HP} {c m : Nat} {lv : Value}
theorem en_chute (K : ∀ (used : Nat) (stir : Int), used ≤ m → 0 ≤ stir → stir < 18446744073709551616 → En n Φ Tt ρ h (box c 115 (chuteV lv used stir) :: Γ)) : En n Φ Tt ρ h (Chute c lv m :: Γ) :=
  en_ex fun used => en_ex fun stir => en_and fun hq => K used stir hq.1 hq.2.1 hq.2.2
theorem en_to_chute {used : Nat} {stir : Int} (h1 : used ≤ m) (h2 : 0 ≤ stir) (h3 : stir < 18446744073709551616) (K : En n Φ Tt ρ h (Chute c lv m :: Γ)) : En n Φ Tt ρ h (box c 115 (chuteV lv used stir) :: Γ) :=
  en_imp (fun k hk => ⟨used, stir, ⟨h1, h2, h3⟩, hk⟩) K
end
theorem wrap_u64_id {x : Int} (h0 : 0 ≤ x) (h1 : x < 18446744073709551616) : IntKind.u64.wrap x = x := by
  have h : IntKind.u64.wrap x = x % 18446744073709551616 := by rfl
  rw [h, Int.emod_eq_of_lt h0 h1]
section
variable {P : Program} {n : Nat} {ρ : Env} {h : Heap} {Γ : List HP} {d : Option Nat} {ty : TypeId} {pos : String} {af : Array Edge} {gd : Option (Nat × Bool)} {x y : Operand} {t t' : TypeId} {m k : Int} {kd : IntKind}
theorem opT_remk (hx : ρ.ev x = some (.int kd m)) (hy : ρ.ev y = some (.int kd k)) (h0 : 0 ≤ m) (h1 : 0 < k) : OpT P n ⟨d, .binOp .rem t x y t', ty, pos, af, gd⟩ ρ h Γ (Det (.int kd (m % k)) h Γ) :=
  opT_bin hx hy (by simp) (by simp) fun w => by
    have hk : k ≠ 0 := by omega
    simp [Op.intDiv, hk, Int.tmod_eq_emod_of_nonneg h0, Sem.run, pure]
end
attribute [local irreducible] Code.wpIn wpListIn Exit.then Exit.inBlock BQ Again Hd St En OpT box blk RQ BQ0 fmap own Desk Chute
def PullR (n : Int) (v : Value) : Prop := ∃ r : Int, v = .int .i64 r ∧ 0 ≤ r ∧ (n < 2 → r = 0) ∧ (2 ≤ n → r < n)
end Go.Sx

/- From a contract in my words to the row: a law that answers true and leaves memory alone. -/
namespace Go.Sx
open Go.ChangeShapes Go.WideShapes Go.ChangeAt Go.RowKit

theorem below_of {W W' : World} {h' : Heap} {Γ' : List HP} (hs : (Heap.ofWorld W).sub h') (s : St (W, []) h' Γ' W') : Below W.heap.size W W' := by
  obtain ⟨k, _, _, hsat, _, he⟩ := s
  have hb : ∀ b, b < W.heap.size → W'.heap[b]? = W.heap[b]? := fun b hb => by
    have e : Heap.ofWorld W b = some W.heap[b] := by simp [Heap.ofWorld, hb]
    rw [hsat b _ (hs b _ e)]; simp [hb]
  refine ⟨he.os, he.tape, he.output, ?_, hb⟩
  rcases Nat.eq_zero_or_pos W.heap.size with e | e
  · omega
  · have h1 := hb (W.heap.size - 1) (by omega)
    have h2 : W.heap[W.heap.size - 1]? ≠ none := by simp; omega
    rw [← h1] at h2
    have : W.heap.size - 1 < W'.heap.size := by
      rcases Nat.lt_or_ge (W.heap.size - 1) W'.heap.size with h3 | h3
      · exact h3
      · exact absurd (Array.getElem?_eq_none h3) h2
    omega
theorem trodAll_below {H : Type} {enc : TypeId × Value → H} {P : Program} (hl : laidOutB P = true) {W W' : World} (hb : Below W.heap.size W W') : ∀ {ts : List TypeId} {vs : List Value} {ds : List (DataW H)} {ps : List MemPlace}, (ts.all fun t => P.readableRec t && decide (t < P.types.size)) = true →
    DataW.TrodAll enc P W 0 (fun _ => true) true ts vs ds ps → (∀ x ∈ ps, x.block < W.heap.size) → DataW.TrodAll enc P W' 0 (fun b => decide (b < W.heap.size)) true ts vs ds ps
  | [], [], [], _, _, h, _ => h
  | t :: ts, v :: vs, d :: ds, ps, hr, h, hlt => by
    obtain ⟨p, q, h1, h2, rfl⟩ := h
    simp only [List.all_cons, Bool.and_eq_true, decide_eq_true_eq] at hr
    exact ⟨p, q, Below.trod hl hr.1.1 hr.1.2 h1 hb (fun x hx => hlt x (by simp [hx])), trodAll_below hl hb hr.2 h2 (fun x hx => hlt x (by simp [hx])), rfl⟩
  | [], _ :: _, _, _, _, h, _ => h.elim
  | [], [], _ :: _, _, _, h, _ => h.elim
  | _ :: _, [], _, _, _, h, _ => h.elim
  | _ :: _, _ :: _, [], _, _, h, _ => h.elim

theorem law_calls {H : Type} {enc : TypeId × Value → H} {P : Program} (hl : laidOutB P = true) {f : FuncId} {fn : Func} {s : ChangeSpec} {W : World} {args : Array Value} {ds gs : List (DataW H)} {before : List MemPlace}
    (hr : (fn.params.toList.all fun t => P.readableRec t && decide (t < P.types.size)) = true) (hv : s.vars = []) (hres : ∃ tb, fn.resultTypes = #[tb] ∧ P.underlying tb = some .bool)
    (hs : s.fn H ds = { results := [.lit (.bool true)], args := ds }) (hW : DataW.Whole enc P fn.params.toList s.vars false W args.toList ds gs before)
    (ct : CT P f args.toList (Heap.ofWorld W) [] (DetW (.bool true) [])) :
    Calls P f args W fun e W' => ∃ v, e = .returned v ∧ s.post enc P fn false true false false W args v W' := by
  have hc := ct.run (W, []) W (St.start W)
  have ea : args.toList.toArray = args := by simp
  rw [ea] at hc
  refine hc.mono fun e W' ⟨v, h', Γ', he, hsub, ⟨hv1, _⟩, st⟩ => ?_
  subst hv1
  have hb := below_of hsub st
  have hW' := hW
  obtain ⟨p, q, hA, hV, rfl, _, _⟩ := hW
  rw [hv] at hV
  obtain ⟨rfl, rfl⟩ := trodVars_none hV
  obtain ⟨tb, hrt, hub⟩ := hres
  have hlt : ∀ x ∈ p, x.block < W.heap.size := fun x hx => by simpa using hW'.lt x (by simp [hx])
  refine ⟨_, he, ds, [], p ++ [], [], p, [], by simpa using hW', ?_, ?_, ?_, hb.frame _, fun hh => by cases hh⟩
  · rw [List.append_nil, hs, hrt]
    exact trodAll_cons_mk (shut_bool hub true) trodAll_mk0
  · rw [List.append_nil, hs]
    exact trodAll_below hl hb hr hA hlt
  · rw [List.append_nil, hs, hv]; rfl

theorem ofWorld_cell {W : World} {b off : Nat} {v : Value} (h : W.cell? ⟨b, off, none⟩ = some v) : cellH (Heap.ofWorld W) b off = some v := by
  simp only [World.cell?] at h
  simp only [cellH, Heap.ofWorld]
  cases hb : W.heap[b]? with
  | none => rw [hb] at h; simp at h
  | some o =>
    rw [hb] at h
    cases o <;> simp_all
theorem add_plain (b off j : Nat) : (⟨b, off, none⟩ : Addr).add j = ⟨b, off + j, none⟩ := addr_add b off j
end Go.Sx

/- Chutes: in one of so many cases, between, filled; trays by chance. -/
namespace Go.Sx
open Go.Proofs
set_option maxRecDepth 100000
attribute [local irreducible] Code.wpIn wpListIn Exit.then Exit.inBlock BQ Again Hd St En OpT box blk RQ BQ0 fmap own Desk Chute
theorem fill_ct (h : Heap) (lv : Value) (bytes : List Int) (hb : IsBytes h lv bytes) : CT Try.prog 13 [lv] h []
    (fun v _ Γ' => ∃ c, v = .pointer (some ⟨c, 0, none⟩) ∧ Γ' = [Chute c lv bytes.length]) := by
  obtain ⟨⟨_, ad, cp, rfl, _, _, _⟩, _, _⟩ := hb
  refine ct_intro Try.func13 rfl rfl rfl rfl fun Φ => ?_
  refine en_seq <| en_region <| en_det (opT_assign rfl) rfl <| en_nil <| en_then <| en_seq <| en_region <| en_det (opT_move rfl) rfl <| en_det (opT_build (cs := [.slice ad bytes.length cp, .int .i64 0, .int .u64 8191]) rfl (by kernel_rfl)) rfl <| en_box rfl rfl rfl fun b5 => en_det (opT_assign rfl) rfl <| en_nil <| en_then <| en_ret <| ?_
  refine en_to_chute (used := 0) (stir := 8191) (m := bytes.length) (lv := .slice ad bytes.length cp) (by omega) (by omega) (by omega) ?_
  refine en_return (rs := [.tmp 2]) rfl (.cons (.tmp rfl) .nil) (.refl _) ⟨_, rfl, rfl⟩
end Go.Sx

/- Drawn regions: calls that keep their chunks, new arrays, appends; the shape of what is appended to. -/
namespace Go.Sx
theorem opT_shape {P : Program} {n : Nat} {o : Oper} {ρ : Env} {h : Heap} {Γ Δ : List HP} {T : TypeId} {sz m : Nat} {xs : List Value} {p : Value → Prop} (t : OpT P n o ρ h Γ (fun v h' Γ' => h' = h ∧ Γ' = own T sz v m xs :: Δ ∧ p v)) :
    OpT P n o ρ h Γ (fun v h' Γ' => ∃ ad cp, v = .slice ad m cp ∧ m ≤ cp ∧ cp ≤ 9223372036854775807 ∧ h' = h ∧ Γ' = own T sz v m xs :: Δ) := by
  intro rd Φ a w K Q e s hk
  refine t rd Φ a w K Q e s fun v h' Γ' w' hs ⟨e1, e2, _⟩ s' => ?_
  subst e1 e2
  obtain ⟨k1, k2, ⟨hl, hp⟩, _⟩ := s'.head
  rcases hp with ⟨hv, h0, hk0⟩ | ⟨b, cap, cs, hv, hk1, hmc, hc, hlen, ht⟩
  · exact hk v h' _ w' hs ⟨none, 0, by rw [hv, h0], by omega, by omega, rfl, rfl⟩ s'
  · exact hk v h' _ w' hs ⟨_, cap, hv, hmc, hc, rfl, rfl⟩ s'
section
variable {l : List Oper} {P : Program} {n : Nat} {rd : Option Nat} {Q : Exit → Act → World → Prop} {Φ : Fr}
theorem dp_tn {e : Nat} {rest np : List Nat} {σ : Env} {h0 hc : Heap} {Γ0 Γx Γ1 : List HP} {d : Option Nat} {op : Op} {ty : TypeId} {pos : String} {af : Array Edge} {C : Value → Heap → List HP → Prop} [x : LNorm (Γ0 ++ Γx) Γ1] (ho : l[e]? = some ⟨d, op, ty, pos, af, none⟩)
    (t : OpT P n ⟨d, op, ty, pos, af, none⟩ σ hc Γ1 C) (hsel : tame op = true) (hσ : (σ.all fun p => Nat.blt p.1 n) = true)
    (ho1 : (rest.all fun k => (e :: rest).any fun m => dirB l k m) = true) (ho2 : ((e :: rest).all fun k => !dirB l e k) = true) (hnp : (np.all fun k => (clo l e).contains k) = true)
    (H : ∀ v h' Γ', hc.sub h' → C v h' Γ' → DP l P n rd Q Φ rest [] (consO d v σ) h' Γ' h' []) : DP l P n rd Q Φ (e :: rest) np σ h0 Γ0 hc Γx := by
  refine dp_t ho ?_ hsel hσ ho1 ho2 hnp H
  rw [x.eq]; exact t
theorem dp_box {e : Nat} {rest np : List Nat} {σ : Env} {h0 hc : Heap} {Γ0 : List HP} {d : Option Nat} {op : Op} {ty T : TypeId} {cs : List Value} {pos : String} {af : Array Edge} {f : Nat → Value} (ho : l[e]? = some ⟨d, op, ty, pos, af, none⟩)
    (t : OpT P n ⟨d, op, ty, pos, af, none⟩ σ hc Γ0 (fun v h' Γ' => ∃ b, v = f b ∧ h' = hc ∧ Γ' = box b T cs :: Γ0)) (hsel : tame op = true) (hσ : (σ.all fun p => Nat.blt p.1 n) = true)
    (ho1 : (rest.all fun k => (e :: rest).any fun m => dirB l k m) = true) (ho2 : ((e :: rest).all fun k => !dirB l e k) = true)
    (H : ∀ b, DP l P n rd Q Φ rest np (consO d (f b) σ) h0 Γ0 hc [box b T cs]) : DP l P n rd Q Φ (e :: rest) np σ h0 Γ0 hc [] :=
  dp_e0 ho t hsel hσ ho1 ho2 fun v h' Γ' _ ⟨b, e1, e2, e3⟩ => by
    subst e1 e2 e3
    exact ⟨[box b T cs], List.perm_append_comm (l₁ := [box b T cs]), H b⟩
theorem dp_callq {e : Nat} {rest np : List Nat} {σ : Env} {h0 hc : Heap} {Γ0 Γ1 Δ : List HP} {d : Option Nat} {g : Operand} {xs : Array Operand} {ts : Array TypeId} {ty : TypeId} {pos : String} {af : Array Edge} {f : FuncId} {first cap : Array Value} {vs args : List Value} {p : Value → Heap → Prop}
    (c : CT P f args hc Γ1 (fun v h' Γ' => p v h' ∧ Γ' = Γ1)) (ho : l[e]? = some ⟨d, .call { callee := .value g, args := xs, argTypes := ts }, ty, pos, af, none⟩) (hg : σ.ev g = some (.func (.func f) first cap)) (hx : σ.evs xs.toList = some vs) (ha : first.toList ++ vs ++ cap.toList = args) [t : Tk Γ0 Γ1 Δ] (hσ : (σ.all fun p => Nat.blt p.1 n) = true)
    (ho1 : (rest.all fun k => (e :: rest).any fun m => dirB l k m) = true) (ho2 : ((e :: rest).all fun k => !dirB l e k) = true)
    (H : ∀ v h', hc.sub h' → p v h' → DP l P n rd Q Φ rest np (consO d v σ) h0 Γ0 h' []) : DP l P n rd Q Φ (e :: rest) np σ h0 Γ0 hc [] :=
  dp_e0 ho (opT_call hg hx ha c) rfl hσ ho1 ho2 fun v h' Γ' hs ⟨Γ2, ⟨hp, e1⟩, e2⟩ => by
    subst e1 e2
    exact ⟨[], by rw [List.append_nil]; exact t.perm.symm, H v h' hs hp⟩
end
section
variable {P : Program} {n : Nat} {ρ : Env} {h : Heap} {Γ : List HP} {d : Nat} {ty : TypeId} {pos : String} {af : Array Edge} {Φ : Fr} {rd : Option Nat} {Q : Exit → Act → World → Prop} {ops : Array Oper} {rest : List Oper}
/-- A call that keeps its chunks, in a row. -/
theorem en_callq {g : Operand} {xs : Array Operand} {ts : Array TypeId} {f : FuncId} {first cap : Array Value} {vs args : List Value} {Γ1 Δ : List HP} {p : Value → Heap → Prop}
    (c : CT P f args h Γ1 (fun v h' Γ' => p v h' ∧ Γ' = Γ1)) (hg : ρ.ev g = some (.func (.func f) first cap)) (hx : ρ.evs xs.toList = some vs) (ha : first.toList ++ vs ++ cap.toList = args) (hd : Nat.blt d n = true) [t : Tk Γ Γ1 Δ]
    (H : ∀ v h', h.sub h' → p v h' → En n Φ (wpListIn (fence rd) 0 P ops Q rest) ((d, v) :: ρ) h' Γ) :
    En n Φ (wpListIn (fence rd) 0 P ops Q (⟨some d, .call { callee := .value g, args := xs, argTypes := ts }, ty, pos, af, none⟩ :: rest)) ρ h Γ :=
  en_call c hg hx ha hd fun v h' Γ' hs ⟨hp, e⟩ => by
    subst e
    exact en_perm t.perm.symm (H v h' hs hp)
end
end Go.Sx

/- Belts by chance. -/
namespace Go.Sx
open Go.Proofs
set_option maxRecDepth 100000
structure MadeH (nt : Nat) (H : HandD) : Prop where
  str : 0 ≤ H.str ∧ H.str ≤ 21
  tire : 0 ≤ H.tire ∧ H.tire ≤ 4
  slip : 0 ≤ H.slip ∧ H.slip ≤ 29
  rests : ∃ p : Nat → Bool, H.rests = natsI ((List.range nt).filter p)
structure MadeB (b : BeltD) (T H : Int) : Prop where
  n1 : 1 ≤ b.nt
  nT : (b.nt : Int) ≤ T
  nH : (b.nh : Int) ≤ H
  tr : ∀ i m, i < b.nt → m < 5 → 0 ≤ b.tray i m ∧ b.tray i m ≤ 14
  hands : ∀ i, i < b.nh → MadeH b.nt (b.hand i)
theorem hand_take (H : HandD) (r : Value) {m : Nat} (hm : m < 5) (t : Bool) : (handL H r).set m (.bool t) = handL { H with takes := fun j => if j = m then t else H.takes j } r := by
  unfold handL; rw [row_set]
  refine row_congr fun j _ => ?_
  by_cases e : j = m
  · subst e; simp [hcell, hm]
  · simp [hcell, e]
theorem hand_rest (H : HandD) (r r' : Value) : (handL H r).set 8 r' = handL H r' := by
  unfold handL; rw [row_set]
  refine row_congr fun j hj => ?_
  by_cases e : j = 8
  · subst e; simp [hcell]
  · simp only [e, if_false, hcell]
    have h1 : j < 5 ∨ j = 5 ∨ j = 6 ∨ j = 7 := by omega
    rcases h1 with h1 | h1 | h1 | h1 <;> simp [h1]
theorem trays_snoc (k : Nat) (T : Nat → Nat → Int) (t : Nat → Int) : rows k 5 (icell T) ++ trayL t = rows (k + 1) 5 (icell fun i => if i = k then t else T i) := by
  rw [rows_succ]
  congr 1
  · refine rows_congr fun i j hi _ => ?_
    have : i ≠ k := by omega
    simp [icell, this]
  · refine row_congr fun j _ => ?_
    simp [icell]
theorem hands_snoc (k : Nat) (H : Nat → HandD) (rv : Nat → Value) (x : HandD) (r : Value) : rows k 9 (fun i => hcell (H i) (rv i)) ++ handL x r = rows (k + 1) 9 (fun i => hcell ((fun i => if i = k then x else H i) i) ((fun i => if i = k then r else rv i) i)) := by
  rw [rows_succ]
  congr 1
  · refine rows_congr fun i j hi _ => ?_
    have : i ≠ k := by omega
    simp [this]
  · refine row_congr fun j _ => ?_
    simp
theorem filter_step (p : Nat → Bool) (t : Nat) (x : Bool) : (List.range (t + 1)).filter (fun j => if j = t then x else p j) = (List.range t).filter p ++ if x = true then [t] else [] := by
  rw [List.range_succ, List.filter_append]
  congr 1
  · refine List.filter_congr fun j hj => ?_
    have : j ≠ t := by have := List.mem_range.1 hj; omega
    simp [this]
  · cases x <;> simp
theorem filter_len (p : Nat → Bool) (t : Nat) : ((List.range t).filter p).length ≤ t := Nat.le_trans (List.length_filter_le _ _) (by simp)
theorem natsI_append (l r : List Nat) : natsI (l ++ r) = natsI l ++ natsI r := by simp [natsI]
theorem natsI_len (l : List Nat) : (natsI l).length = l.length := by simp [natsI]
theorem rises_filter (p : Nat → Bool) (t : Nat) : risesD (natsI ((List.range t).filter p)) = true := by
  unfold risesD
  rw [allI_iff]
  intro i hi
  have hs : ((List.range t).filter p).Pairwise (· < ·) := List.Pairwise.filter p List.pairwise_lt_range
  rw [natsI_len] at hi
  have h1 := List.pairwise_iff_getElem.1 hs i (i + 1) (by omega) (by omega) (by omega)
  rw [getD_lt (by rw [natsI_len]; omega), getD_lt (by rw [natsI_len]; omega)]
  simp only [natsI, List.getElem_map, decide_eq_true_eq]
  omega
theorem MadeB.ok {b : BeltD} {T H : Int} (m : MadeB b T H) (hT : T ≤ 8) (hH : H ≤ 5) : BOK b where
  n1 := m.n1
  n8 := by have := m.nT; omega
  h5 := by have := m.nH; omega
  tr := fun i j hi hj => by have := m.tr i j hi hj; omega
  ok := fun i hi => ⟨(m.hands i hi).str.1, by have := (m.hands i hi).str; omega, (m.hands i hi).tire.1, by have := (m.hands i hi).tire; omega⟩
  sl := fun i hi => by have := (m.hands i hi).slip; omega
  re := fun i hi j hj => by
    obtain ⟨p, hp⟩ := (m.hands i hi).rests
    rw [hp] at hj ⊢
    rw [getD_lt hj]
    have hm : (natsI ((List.range b.nt).filter p))[j] ∈ natsI ((List.range b.nt).filter p) := List.getElem_mem hj
    simp only [natsI, List.mem_map, List.mem_filter, List.mem_range] at hm
    obtain ⟨x, ⟨hx, _⟩, e⟩ := hm
    simp only [natsI] at e ⊢
    omega
  ri := fun i hi => by obtain ⟨p, hp⟩ := (m.hands i hi).rests; rw [hp]; exact rises_filter p _
attribute [local irreducible] Code.wpIn wpListIn Exit.then Exit.inBlock BQ Again Hd St En OpT box blk RQ BQ0 fmap own Desk Chute
end Go.Sx

/- Copies of lists, of belts. -/
namespace Go.Sx
open Go.Proofs
set_option maxRecDepth 100000
theorem own_one {T : TypeId} {sz m : Nat} {v : Value} {xs : List Value} {k : Heap} (h : own T sz v m xs k) : ∃ ad cp, v = .slice ad m cp := by
  obtain ⟨_, ⟨rfl, rfl, _⟩ | ⟨b, cap, cs, rfl, _⟩⟩ := h
  · exact ⟨none, 0, rfl⟩
  · exact ⟨_, cap, rfl⟩
attribute [local irreducible] Code.wpIn wpListIn Exit.then Exit.inBlock BQ Again Hd St En OpT box blk RQ BQ0 fmap own Desk Chute
theorem copy77_ct (h : Heap) (v : Value) (m : Nat) (xs : List Value) (hv : SlH h 1 v m xs) (h1 : ∀ q ∈ xs, q.oneCell' = true) (hm : m ≤ 1000) : CT Try.prog 77 [v] h []
    (fun v' _ Γ' => ∃ ad cp, v' = .slice ad m cp ∧ Γ' = [own 3 1 (.slice ad m cp) m xs]) := by
  have hv0 := hv
  obtain ⟨hl, ad, cp, rfl, hmc, hc, hp⟩ := hv
  refine ct_intro Try.func77 rfl rfl rfl rfl fun Φ => ?_
  skip
  by_cases h0 : m = 0
  · subst h0
    have hx : xs = [] := List.eq_nil_of_length_eq_zero (by omega)
    subst hx
    refine en_own_nil 3 1 ?_
    refine en_seq <| en_region <| en_det (opT_assign rfl) rfl <| en_nil <| en_then <| en_seq <| en_seq <| en_region <| en_det (opT_move rfl) rfl <| en_det (opT_len rfl) rfl <| en_det (opT_eql_t rfl rfl (by omega)) rfl <| en_nil <| en_then <| en_cond_t rfl <| en_seq <| en_region <| en_det (opT_assign rfl) rfl <| en_nil <| en_then <| en_ret <| en_then_ret <| ?_
    refine en_return (rs := [.tmp 2]) rfl (.cons (.tmp rfl) .nil) (.refl _) ⟨none, 0, rfl, rfl⟩
  · skip
    refine en_seq <| en_region <| en_det (opT_assign rfl) rfl <| en_nil <| en_then <| en_seq <| en_seq <| en_region <| en_det (opT_move rfl) rfl <| en_det (opT_len rfl) rfl <| en_det (opT_eql_f rfl rfl (by omega)) rfl <| en_nil <| en_then <| en_cond_f rfl <| en_skip <| en_then <| en_seq <| en_region <| ?_
    refine en_op (opT_buildSlice (cs := []) rfl rfl (by kernel_rfl)) rfl fun _ _ _ _ ⟨b6, e1, e2, e3⟩ => ?_
    subst e1 e3; replace e2 := e2.symm; subst e2
    refine en_to_own 1 0 0 (by omega) (by omega) rfl ?_
    rw [show (List.take (0 * 1) ([] : List Value)) = [] from rfl]
    refine en_det (opT_move rfl) rfl <| ?_
    refine en_op (opT_shape (opT_append (m := 0) (k := m) (xs := []) (news := xs) (sz := 1) (e := 3) (Δ := []) (v := .slice (some ⟨b6, 0, none⟩) 0 0) rfl rfl (src_h hv0) h1 (by omega) (by omega) (by omega))) rfl fun v8 _ _ _ hv8 => ?_
    obtain ⟨ad8, cp8, rfl, _, _, e1, rfl⟩ := hv8
    replace e1 := e1.symm; subst e1
    rw [Nat.zero_add, List.nil_append]
    refine en_det (opT_assign rfl) rfl <| en_nil <| en_then <| en_ret <| ?_
    refine en_return (rs := [.tmp 2]) rfl (.cons (.tmp rfl) .nil) (.refl _) ⟨_, _, rfl, rfl⟩
theorem copy60_ct (h : Heap) (v : Value) (m : Nat) (xs : List Value) (hv : SlH h 5 v m xs) (h1 : ∀ q ∈ xs, q.oneCell' = true) (hm : m ≤ 1000) : CT Try.prog 60 [v] h []
    (fun v' _ Γ' => ∃ ad cp, v' = .slice ad m cp ∧ Γ' = [own 31 5 (.slice ad m cp) m xs]) := by
  have hv0 := hv
  obtain ⟨hl, ad, cp, rfl, hmc, hc, hp⟩ := hv
  refine ct_intro Try.func60 rfl rfl rfl rfl fun Φ => ?_
  skip
  by_cases h0 : m = 0
  · subst h0
    have hx : xs = [] := List.eq_nil_of_length_eq_zero (by omega)
    subst hx
    refine en_own_nil 31 5 ?_
    refine en_seq <| en_region <| en_det (opT_assign rfl) rfl <| en_nil <| en_then <| en_seq <| en_seq <| en_region <| en_det (opT_move rfl) rfl <| en_det (opT_len rfl) rfl <| en_det (opT_eql_t rfl rfl (by omega)) rfl <| en_nil <| en_then <| en_cond_t rfl <| en_seq <| en_region <| en_det (opT_assign rfl) rfl <| en_nil <| en_then <| en_ret <| en_then_ret <| ?_
    refine en_return (rs := [.tmp 2]) rfl (.cons (.tmp rfl) .nil) (.refl _) ⟨none, 0, rfl, rfl⟩
  · skip
    refine en_seq <| en_region <| en_det (opT_assign rfl) rfl <| en_nil <| en_then <| en_seq <| en_seq <| en_region <| en_det (opT_move rfl) rfl <| en_det (opT_len rfl) rfl <| en_det (opT_eql_f rfl rfl (by omega)) rfl <| en_nil <| en_then <| en_cond_f rfl <| en_skip <| en_then <| en_seq <| en_region <| ?_
    refine en_op (opT_buildSlice (cs := []) rfl rfl (by kernel_rfl)) rfl fun _ _ _ _ ⟨b6, e1, e2, e3⟩ => ?_
    subst e1 e3; replace e2 := e2.symm; subst e2
    refine en_to_own 5 0 0 (by omega) (by omega) rfl ?_
    rw [show (List.take (0 * 5) ([] : List Value)) = [] from rfl]
    refine en_det (opT_move rfl) rfl <| ?_
    refine en_op (opT_shape (opT_append (m := 0) (k := m) (xs := []) (news := xs) (sz := 5) (e := 31) (Δ := []) (v := .slice (some ⟨b6, 0, none⟩) 0 0) rfl rfl (src_h hv0) h1 (by omega) (by omega) (by omega))) rfl fun v8 _ _ _ hv8 => ?_
    obtain ⟨ad8, cp8, rfl, _, _, e1, rfl⟩ := hv8
    replace e1 := e1.symm; subst e1
    rw [Nat.zero_add, List.nil_append]
    refine en_det (opT_assign rfl) rfl <| en_nil <| en_then <| en_ret <| ?_
    refine en_return (rs := [.tmp 2]) rfl (.cons (.tmp rfl) .nil) (.refl _) ⟨_, _, rfl, rfl⟩
theorem copy44_ct (h : Heap) (v : Value) (m : Nat) (xs : List Value) (hv : SlH h 1 v m xs) (h1 : ∀ q ∈ xs, q.oneCell' = true) (hm : m ≤ 1000) : CT Try.prog 44 [v] h []
    (fun v' _ Γ' => ∃ ad cp, v' = .slice ad m cp ∧ Γ' = [own 86 1 (.slice ad m cp) m xs]) := by
  have hv0 := hv
  obtain ⟨hl, ad, cp, rfl, hmc, hc, hp⟩ := hv
  refine ct_intro Try.func44 rfl rfl rfl rfl fun Φ => ?_
  skip
  by_cases h0 : m = 0
  · subst h0
    have hx : xs = [] := List.eq_nil_of_length_eq_zero (by omega)
    subst hx
    refine en_own_nil 86 1 ?_
    refine en_seq <| en_region <| en_det (opT_assign rfl) rfl <| en_nil <| en_then <| en_seq <| en_seq <| en_region <| en_det (opT_move rfl) rfl <| en_det (opT_len rfl) rfl <| en_det (opT_eql_t rfl rfl (by omega)) rfl <| en_nil <| en_then <| en_cond_t rfl <| en_seq <| en_region <| en_det (opT_assign rfl) rfl <| en_nil <| en_then <| en_ret <| en_then_ret <| ?_
    refine en_return (rs := [.tmp 2]) rfl (.cons (.tmp rfl) .nil) (.refl _) ⟨none, 0, rfl, rfl⟩
  · skip
    refine en_seq <| en_region <| en_det (opT_assign rfl) rfl <| en_nil <| en_then <| en_seq <| en_seq <| en_region <| en_det (opT_move rfl) rfl <| en_det (opT_len rfl) rfl <| en_det (opT_eql_f rfl rfl (by omega)) rfl <| en_nil <| en_then <| en_cond_f rfl <| en_skip <| en_then <| en_seq <| en_region <| ?_
    refine en_op (opT_buildSlice (cs := []) rfl rfl (by kernel_rfl)) rfl fun _ _ _ _ ⟨b6, e1, e2, e3⟩ => ?_
    subst e1 e3; replace e2 := e2.symm; subst e2
    refine en_to_own 1 0 0 (by omega) (by omega) rfl ?_
    rw [show (List.take (0 * 1) ([] : List Value)) = [] from rfl]
    refine en_det (opT_move rfl) rfl <| ?_
    refine en_op (opT_shape (opT_append (m := 0) (k := m) (xs := []) (news := xs) (sz := 1) (e := 86) (Δ := []) (v := .slice (some ⟨b6, 0, none⟩) 0 0) rfl rfl (src_h hv0) h1 (by omega) (by omega) (by omega))) rfl fun v8 _ _ _ hv8 => ?_
    obtain ⟨ad8, cp8, rfl, _, _, e1, rfl⟩ := hv8
    replace e1 := e1.symm; subst e1
    rw [Nat.zero_add, List.nil_append]
    refine en_det (opT_assign rfl) rfl <| en_nil <| en_then <| en_ret <| ?_
    refine en_return (rs := [.tmp 2]) rfl (.cons (.tmp rfl) .nil) (.refl _) ⟨_, _, rfl, rfl⟩
end Go.Sx

/- The most that hands can take is the least number by which a set bounds it: plain. -/
namespace Go.Sx

theorem sumN_add (n : Nat) (f g : Nat → Int) : sumN n (fun i => f i + g i) = sumN n f + sumN n g := by
  induction n with
  | zero => rfl
  | succ n ih => simp only [sumN, ih]; omega
theorem sumN_sub (n : Nat) (f g : Nat → Int) : sumN n (fun i => f i - g i) = sumN n f - sumN n g := by
  induction n with
  | zero => rfl
  | succ n ih => simp only [sumN, ih]; omega
theorem sumN_zero (n : Nat) : sumN n (fun _ => 0) = 0 := by
  induction n with
  | zero => rfl
  | succ n ih => simp only [sumN, ih]; rfl
theorem sumN_le {n : Nat} {f g : Nat → Int} (h : ∀ i, i < n → f i ≤ g i) : sumN n f ≤ sumN n g := by
  induction n with
  | zero => exact Int.le_refl _
  | succ n ih =>
    have h1 := ih fun i hi => h i (by omega)
    have h2 := h n (by omega)
    simp only [sumN]; omega
theorem sumN_nn {n : Nat} {f : Nat → Int} (h : ∀ i, i < n → 0 ≤ f i) : 0 ≤ sumN n f := by
  have := sumN_le (n := n) (f := fun _ => 0) (g := f) h
  rwa [sumN_zero] at this
theorem sumN_swap (n m : Nat) (f : Nat → Nat → Int) : sumN n (fun i => sumN m (f i)) = sumN m (fun j => sumN n fun i => f i j) := by
  induction n with
  | zero => simp only [sumN]; rw [sumN_zero]
  | succ n ih =>
    simp only [sumN]
    rw [ih, ← sumN_add]
theorem sumN_one {n : Nat} {f : Nat → Int} (h : ∀ i, i < n → 0 ≤ f i) {k : Nat} (hk : k < n) : f k ≤ sumN n f := by
  induction n with
  | zero => omega
  | succ n ih =>
    simp only [sumN]
    have h1 := sumN_nn (n := n) fun i hi => h i (by omega)
    have h2 := h n (by omega)
    by_cases e : k = n
    · subst e; omega
    · have := ih (fun i hi => h i (by omega)) (by omega); omega

section
variable {nh : Nat} {takes : Nat → Nat → Bool} {force : Nat → Int} {hands : List Nat}

/-! ### A hand that is not asked takes nothing -/
theorem giveO_out {rec : Nat → GS → Bool × GS} {m h : Nat} (hrec : ∀ o S h', h' ∉ hands → (rec o S).2.out h' = S.out h') (hin : h ∈ hands) : ∀ (os : List Nat) (S : GS) (h' : Nat), h' ∉ hands → (giveO rec m h os S).2.out h' = S.out h'
  | [], S, h', _ => rfl
  | o :: os, S, h', hn => by
    unfold giveO
    split
    · split
      · show swap _ _ _ _ h' = _
        rw [swap_row_ne (fun e => hn (by rw [e]; exact hin)), hrec o S h' hn]
      · rw [giveO_out hrec hin os _ h' hn, hrec o S h' hn]
    · exact giveO_out hrec hin os S h' hn
theorem giveH_out {rec : Nat → GS → Bool × GS} {m : Nat} (hrec : ∀ o S h', h' ∉ hands → (rec o S).2.out h' = S.out h') : ∀ (hs : List Nat) (S : GS) (h' : Nat), (∀ h ∈ hs, h ∈ hands) → h' ∉ hands → (giveH takes force rec m hs S).2.out h' = S.out h'
  | [], S, h', _, _ => rfl
  | h :: hs, S, h', hsub, hn => by
    have hin : h ∈ hands := hsub h (by simp)
    have hsub' : ∀ x ∈ hs, x ∈ hands := fun x hx => hsub x (by simp [hx])
    unfold giveH
    split
    · exact giveH_out hrec hs S h' hsub' hn
    · split
      · show upd2 _ _ _ _ h' = _
        rw [upd2_row_ne (fun e => hn (by rw [e]; exact hin))]
      · split
        · exact giveO_out hrec hin _ _ h' hn
        · rw [giveH_out hrec hs _ h' hsub' hn, giveO_out hrec hin _ _ h' hn]
theorem giveD_out : ∀ (k m : Nat) (S : GS) (h' : Nat), h' ∉ hands → (giveD takes force hands k m S).2.out h' = S.out h'
  | 0, _, _, _, _ => rfl
  | k + 1, m, S, h', hn => giveH_out (fun o S h' hn => giveD_out k o S h' hn) hands S h' (fun _ x => x) hn
theorem pour_out {m : Nat} : ∀ (l : Nat) (out : Nat → Nat → Int) (h' : Nat), h' ∉ hands → (pour takes force hands m l out).1 h' = out h'
  | 0, _, _, _ => rfl
  | l + 1, out, h', hn => by
    unfold pour
    split
    · rw [pour_out l _ h' hn]; exact giveD_out 6 m _ h' hn
    · rfl
theorem shareS_out {w0 : Nat → Nat} : ∀ (k : Nat) (h' : Nat), h' ∉ hands → (shareS takes force hands w0 k).1 h' = fun _ => 0
  | 0, _, _ => rfl
  | k + 1, h', hn => by
    show (pour takes force hands k _ _).1 h' = _
    rw [pour_out _ _ h' hn, shareS_out k h' hn]

/-! ### What is taken and what is left are what is wanted -/
theorem pour_tot (h5 : nh ≤ 5) (hlt : ∀ h ∈ hands, h < nh) {m : Nat} (hm : m < 5) : ∀ (l : Nat) (out : Nat → Nat → Int), OutOK nh takes force out →
    ∀ o, tot nh (pour takes force hands m l out).1 o = tot nh out o + if o = m then ((l : Int) - ((pour takes force hands m l out).2 : Int)) else 0
  | 0, out, _, o => by unfold pour; simp
  | l + 1, out, ok, o => by
    have hg := give1_ok h5 hlt hm ok
    unfold pour
    split
    · rename_i hb
      rw [pour_tot h5 hlt hm l _ hg.ok o, hg.tot hb o]
      by_cases e : o = m <;> simp [e]; omega
    · by_cases e : o = m <;> simp [e]
theorem shareS_tot (h5 : nh ≤ 5) (hlt : ∀ h ∈ hands, h < nh) (hf : ∀ h, h < nh → 0 ≤ force h) (w0 : Nat → Nat) : ∀ k, k ≤ 5 → ∀ o, tot nh (shareS takes force hands w0 k).1 o + ((shareS takes force hands w0 k).2 o : Int) = w0 o
  | 0, _, o => by show tot nh (fun _ _ => 0) o + _ = _; unfold tot; rw [sumN_zero]; show (0 : Int) + (w0 o : Int) = _; omega
  | k + 1, hk, o => by
    have ih := shareS_tot h5 hlt hf w0 k (by omega) o
    have ok := (shareS_ok (takes := takes) h5 hlt hf w0 k (by omega)).1
    have ht := pour_tot h5 hlt (show k < 5 by omega) ((shareS takes force hands w0 k).2 k) _ ok o
    show tot nh (pour takes force hands k _ _).1 o + ((leftU _ k _ o : Nat) : Int) = _
    rw [ht]
    unfold leftU
    by_cases e : o = k
    · subst e; simp only [if_true]; omega
    · simp only [e, if_false]; omega

/-! ### Materials that hold up -/
theorem pour_cert (h5 : nh ≤ 5) (hlt : ∀ h ∈ hands, h < nh) {m : Nat} (hm : m < 5) {C : Nat → Prop} : ∀ (l : Nat) (out : Nat → Nat → Int), OutOK nh takes force out → Cert takes force hands C out → Cert takes force hands C (pour takes force hands m l out).1
  | 0, _, _, hC => hC
  | l + 1, out, ok, hC => by
    have hg := give1_ok h5 hlt hm ok
    unfold pour
    split
    · rename_i hb
      refine pour_cert h5 hlt hm l _ hg.ok fun h hh hx => ?_
      rw [(hg.cert C hC hb).2 h hh hx]
      exact hC h hh hx
    · exact hC
theorem pour_stuck (h5 : nh ≤ 5) (hlt : ∀ h ∈ hands, h < nh) {m : Nat} (hm : m < 5) : ∀ (l : Nat) (out : Nat → Nat → Int), OutOK nh takes force out → 0 < (pour takes force hands m l out).2 → ∃ C : Nat → Prop, C m ∧ Cert takes force hands C (pour takes force hands m l out).1
  | 0, _, _, h0 => by simp [pour] at h0
  | l + 1, out, ok, h0 => by
    have hg := give1_ok h5 hlt hm ok
    unfold pour at h0 ⊢
    split
    · rename_i hb
      rw [if_pos hb] at h0
      exact pour_stuck h5 hlt hm l _ hg.ok h0
    · rename_i hb
      have hb' : (give1 takes force hands m out).1 = false := by simpa using hb
      have hun : unseen (⟨out, noneS⟩ : GS).seen < 6 := show unseen noneS < 6 by decide
      obtain ⟨c1, c2⟩ := hg.closed hun hb'
      refine ⟨fun o => ∀ h ∈ hands, takes h o = true → (give1 takes force hands m out).2.seen h = true, c1, fun h hh ⟨o, ho, hCo, hto⟩ => ?_⟩
      obtain ⟨e1, e2⟩ := c2 h hh (hCo h hh hto) rfl
      exact ⟨e1, fun x hx hp h' hh' hth => e2 x hx hp h' hh' hth⟩
theorem shareS_cert (h5 : nh ≤ 5) (hlt : ∀ h ∈ hands, h < nh) (hf : ∀ h, h < nh → 0 ≤ force h) (w0 : Nat → Nat) : ∀ k, k ≤ 5 → ∀ m, m < k → 0 < (shareS takes force hands w0 k).2 m → ∃ C : Nat → Prop, C m ∧ Cert takes force hands C (shareS takes force hands w0 k).1
  | 0, _, m, hm, _ => by omega
  | k + 1, hk, m, hm, hp => by
    have ok := (shareS_ok (takes := takes) h5 hlt hf w0 k (by omega)).1
    by_cases e : m = k
    · subst e
      refine pour_stuck h5 hlt (by omega) _ _ ok ?_
      have : (shareS takes force hands w0 (m + 1)).2 m = (pour takes force hands m ((shareS takes force hands w0 m).2 m) (shareS takes force hands w0 m).1).2 := by
        show leftU _ m _ m = _; simp [leftU]
      rwa [this] at hp
    · have : (shareS takes force hands w0 (k + 1)).2 m = (shareS takes force hands w0 k).2 m := by
        show leftU _ k _ m = _; simp [leftU, e]
      rw [this] at hp
      obtain ⟨C, hC, hc⟩ := shareS_cert h5 hlt hf w0 k (by omega) m (by omega) hp
      exact ⟨C, hC, pour_cert h5 hlt (by omega) _ _ ok hc⟩
/-- All of which some is left, held up at once. -/
theorem shareS_hold (h5 : nh ≤ 5) (hlt : ∀ h ∈ hands, h < nh) (hf : ∀ h, h < nh → 0 ≤ force h) (w0 : Nat → Nat) : ∃ C : Nat → Prop, (∀ m, m < 5 → 0 < (shareS takes force hands w0 5).2 m → C m) ∧ Cert takes force hands C (shareS takes force hands w0 5).1 := by
  refine ⟨fun o => ∃ C : Nat → Prop, Cert takes force hands C (shareS takes force hands w0 5).1 ∧ C o, fun m hm hp => ?_, fun h hh ⟨o, ho, ⟨C, hc, hCo⟩, hto⟩ => ?_⟩
  · obtain ⟨C, hC, hc⟩ := shareS_cert h5 hlt hf w0 5 (Nat.le_refl _) m hm hp
    exact ⟨C, hc, hC⟩
  · obtain ⟨e1, e2⟩ := hc h hh ⟨o, ho, hCo, hto⟩
    exact ⟨e1, fun x hx hp => ⟨C, hc, e2 x hx hp⟩⟩
end

/-! ### The set that is told -/
theorem tb_one (o x : Nat) : (1 <<< o).testBit x = decide (o = x) := by
  rw [Nat.one_shiftLeft, Nat.testBit_two_pow]
theorem addBit_tb (p : Nat → Bool) (s o x : Nat) : (addBit p s o).testBit x = (s.testBit x || (p o && decide (o = x))) := by
  unfold addBit
  split
  · rename_i h; rw [Nat.testBit_or, tb_one, h]; simp
  · rename_i h
    have h' : p o = false := by simpa using h
    rw [h']; simp
theorem bitsP_tb (p : Nat → Bool) (k s x : Nat) : (bitsP p k s).testBit x = (s.testBit x || (decide (x < k) && p x)) := by
  induction k with
  | zero => simp [bitsP]
  | succ k ih =>
    rw [bitsP_succ, addBit_tb, ih]
    by_cases e : k = x
    · subst e; simp
    · have h1 : decide (x < k + 1) = decide (x < k) := by simp only [decide_eq_decide]; omega
      rw [h1]; simp [e]
theorem setL_mem' {s m : Nat} : m ∈ setL s ↔ m < 5 ∧ s.testBit m = true := by simp [setL]
section
variable {takes : Nat → Nat → Bool} {out : Nat → Nat → Int}
theorem heldH_tb {h : Nat} : ∀ {l : List Nat} {s x : Nat}, (heldH takes out h l s).testBit x = true ↔ s.testBit x = true ∨ (∃ m ∈ l, takes h m = true) ∧ x < 5 ∧ 0 < out h x
  | [], s, x => by simp [heldH]
  | m :: l, s, x => by
    unfold heldH; rw [List.foldl_cons]
    split
    · rename_i ht
      have ih := heldH_tb (h := h) (l := l) (s := bitsP (fun o => decide (0 < out h o)) 5 s) (x := x)
      unfold heldH at ih
      rw [ih, bitsP_tb]
      simp only [Bool.or_eq_true, Bool.and_eq_true, decide_eq_true_eq, List.mem_cons, exists_eq_or_imp, ht, true_or, true_and]
      constructor
      · rintro ((h1 | h1) | ⟨_, h1⟩)
        · exact .inl h1
        · exact .inr h1
        · exact .inr h1
      · rintro (h1 | h1)
        · exact .inl (.inl h1)
        · exact .inl (.inr h1)
    · rename_i ht
      have ih := heldH_tb (h := h) (l := l) (s := s) (x := x)
      unfold heldH at ih
      rw [ih]
      simp [ht]
theorem heldR_tb {was : Nat} : ∀ {hs : List Nat} {s x : Nat}, (heldR takes out was hs s).testBit x = true ↔ s.testBit x = true ∨ ∃ h ∈ hs, (∃ m ∈ setL was, takes h m = true) ∧ x < 5 ∧ 0 < out h x
  | [], s, x => by simp [heldR]
  | h :: hs, s, x => by
    unfold heldR; rw [List.foldl_cons]
    have ih := heldR_tb (was := was) (hs := hs) (s := heldH takes out h (setL was) s) (x := x)
    unfold heldR at ih
    rw [ih, heldH_tb]
    simp only [List.mem_cons, exists_eq_or_imp]
    constructor
    · rintro ((h1 | h1) | h1)
      · exact .inl h1
      · exact .inr (.inl h1)
      · exact .inr (.inr h1)
    · rintro (h1 | h1 | h1)
      · exact .inl (.inl h1)
      · exact .inl (.inr h1)
      · exact .inr h1
/-- It grows till nothing comes. -/
theorem heldL_fix {hands : List Nat} : ∀ (n s : Nat), s < 32 → 32 ≤ s + n → heldR takes out (heldL takes out hands n s) hands (heldL takes out hands n s) = heldL takes out hands n s
  | 0, s, h, h' => by omega
  | n + 1, s, h, h' => by
    unfold heldL
    split
    · assumption
    · rename_i hne
      have hr := heldR_rng (takes := takes) (out := out) (was := s) (l := hands) h
      have hlt : s < heldR takes out s hands s := Nat.lt_of_le_of_ne hr.2 (Ne.symm hne)
      exact heldL_fix n _ hr.1 (by omega)
theorem heldL_sub {hands : List Nat} {C : Nat → Prop} (hC : ∀ h ∈ hands, (∃ m, m < 5 ∧ C m ∧ takes h m = true) → ∀ o, o < 5 → 0 < out h o → C o) : ∀ (n s : Nat), (∀ x, s.testBit x = true → C x) → ∀ x, (heldL takes out hands n s).testBit x = true → C x
  | 0, s, h, x, hx => h x hx
  | n + 1, s, h, x, hx => by
    unfold heldL at hx
    split at hx
    · exact h x hx
    · refine heldL_sub hC n _ (fun y hy => ?_) x hx
      rcases heldR_tb.1 hy with h1 | ⟨g, hg, ⟨m, hm, ht⟩, hy5, hp⟩
      · exact h y h1
      · obtain ⟨hm5, hmb⟩ := setL_mem'.1 hm
        exact hC g hg ⟨m, hm5, h m hmb, ht⟩ y hy5 hp
theorem heldL_up {hands : List Nat} : ∀ (n s x : Nat), s.testBit x = true → (heldL takes out hands n s).testBit x = true
  | 0, _, _, h => h
  | n + 1, s, x, h => by
    unfold heldL
    split
    · exact h
    · exact heldL_up n _ x (heldR_tb.2 (.inl h))
end

/-! ### Sums over sets -/
def anyT (tk : Nat → Bool) (s : Nat) : Bool := (setL s).any tk
theorem anyT_iff {tk : Nat → Bool} {s : Nat} : anyT tk s = true ↔ ∃ m, m < 5 ∧ s.testBit m = true ∧ tk m = true := by
  simp only [anyT, List.any_eq_true, setL_mem']
  constructor
  · rintro ⟨m, ⟨a, b⟩, c⟩; exact ⟨m, a, b, c⟩
  · rintro ⟨m, a, b, c⟩; exact ⟨m, ⟨a, b⟩, c⟩
/-- What is in a set, and what is not. -/
def inS (s : Nat) (f : Nat → Int) : Int := sumN 5 fun m => if s.testBit m = true then f m else 0
def exS (s : Nat) (f : Nat → Int) : Int := sumN 5 fun m => if s.testBit m = true then 0 else f m
theorem in_ex (s : Nat) (f : Nat → Int) : inS s f + exS s f = sum5 f := by
  unfold inS exS sum5
  rw [← sumN_add]
  refine sumN_congr fun m _ => ?_
  split <;> omega
/-- The forces behind a set. -/
def behL (nh : Nat) (takes : Nat → Nat → Bool) (force : Nat → Int) (hands : List Nat) (s : Nat) : Int := sumN nh fun i => if (hands.contains i && anyT (takes i) s) = true then force i else 0

section
variable {nh : Nat} {takes : Nat → Nat → Bool} {force : Nat → Int} {hands : List Nat}
/-- No sharing takes more than a set bounds. -/
theorem share_le {x : Nat → Nat → Int} {w : Nat → Int} (ok : OutOK nh takes force x) (h0 : ∀ h, h < nh → h ∉ hands → ∀ m, m < 5 → x h m = 0) (hw : ∀ m, m < 5 → tot nh x m ≤ w m) (s : Nat) :
    sumN nh (fun h => sum5 (x h)) ≤ behL nh takes force hands s + exS s w := by
  have h1 : sumN nh (fun h => sum5 (x h)) ≤ sumN nh (fun h => (if (hands.contains h && anyT (takes h) s) = true then force h else 0) + exS s (x h)) := by
    refine sumN_le fun h hh => ?_
    have hie := in_ex s (x h)
    have hex : 0 ≤ exS s (x h) := sumN_nn fun m hm => by
      show 0 ≤ (if s.testBit m = true then 0 else x h m)
      split
      · exact Int.le_refl _
      · exact ok.pos h m hh hm
    split
    · have := ok.le h hh; omega
    · rename_i hb
      have hz : inS s (x h) = 0 := by
        unfold inS
        rw [← sumN_zero 5]
        refine sumN_congr fun m hm => ?_
        split
        · rename_i hmb
          by_cases hin : h ∈ hands
          · have hp := ok.pos h m hh hm
            have hnt : ¬ 0 < x h m := fun hpos => by
              apply hb
              rw [Bool.and_eq_true]
              exact ⟨by simpa using hin, anyT_iff.2 ⟨m, hm, hmb, ok.tk h m hh hm hpos⟩⟩
            omega
          · exact h0 h hh hin m hm
        · rfl
      omega
  have h2 : sumN nh (fun h => exS s (x h)) = exS s (tot nh x) := by
    unfold exS
    rw [sumN_swap]
    refine sumN_congr fun m _ => ?_
    split
    · exact sumN_zero nh
    · rfl
  have h3 : exS s (tot nh x) ≤ exS s w := sumN_le fun m hm => by
    show (if s.testBit m = true then 0 else tot nh x m) ≤ (if s.testBit m = true then 0 else w m)
    split
    · exact Int.le_refl _
    · exact hw m hm
  rw [sumN_add] at h1
  unfold behL
  omega
/-- A set that holds up is met. -/
theorem share_eq {x : Nat → Nat → Int} {w : Nat → Int} (ok : OutOK nh takes force x) (h0 : ∀ h, h < nh → h ∉ hands → ∀ m, m < 5 → x h m = 0) {s : Nat} (hw : ∀ m, m < 5 → s.testBit m = false → tot nh x m = w m) (hc : Cert takes force hands (fun m => s.testBit m = true) x) :
    sumN nh (fun h => sum5 (x h)) = behL nh takes force hands s + exS s w := by
  have h1 : sumN nh (fun h => sum5 (x h)) = sumN nh (fun h => (if (hands.contains h && anyT (takes h) s) = true then force h else 0) + exS s (x h)) := by
    refine sumN_congr fun h hh => ?_
    have hie := in_ex s (x h)
    split
    · rename_i hb
      rw [Bool.and_eq_true] at hb
      have hin : h ∈ hands := by simpa using hb.1
      obtain ⟨e1, e2⟩ := hc h hin (anyT_iff.1 hb.2)
      have e3 := ok.le h hh
      have hz : exS s (x h) = 0 := by
        unfold exS
        rw [← sumN_zero 5]
        refine sumN_congr fun m hm => ?_
        split
        · rfl
        · rename_i hmb
          have hp := ok.pos h m hh hm
          have hnt : ¬ 0 < x h m := fun hpos => hmb (e2 m hm hpos)
          omega
      omega
    · rename_i hb
      have hz : inS s (x h) = 0 := by
        unfold inS
        rw [← sumN_zero 5]
        refine sumN_congr fun m hm => ?_
        split
        · rename_i hmb
          by_cases hin : h ∈ hands
          · have hp := ok.pos h m hh hm
            have hnt : ¬ 0 < x h m := fun hpos => by
              apply hb
              rw [Bool.and_eq_true]
              exact ⟨by simpa using hin, anyT_iff.2 ⟨m, hm, hmb, ok.tk h m hh hm hpos⟩⟩
            omega
          · exact h0 h hh hin m hm
        · rfl
      omega
  have h2 : sumN nh (fun h => exS s (x h)) = exS s (tot nh x) := by
    unfold exS
    rw [sumN_swap]
    refine sumN_congr fun m _ => ?_
    split
    · exact sumN_zero nh
    · rfl
  have h3 : exS s (tot nh x) = exS s w := sumN_congr fun m hm => by
    show (if s.testBit m = true then 0 else tot nh x m) = (if s.testBit m = true then 0 else w m)
    split
    · rfl
    · rename_i hmb; exact hw m hm (by simpa using hmb)
  rw [h1, sumN_add, h2, h3]; rfl

/-- The sharing that is made, and the set that is told. -/
theorem sharing (h5 : nh ≤ 5) (hlt : ∀ h ∈ hands, h < nh) (hf : ∀ h, h < nh → 0 ≤ force h) (w0 : Nat → Nat) :
    let D := shareS takes force hands w0 5
    let s := heldD takes D.1 hands D.2
    (∀ m, m < 5 → 0 < D.2 m → s.testBit m = true) ∧ Cert takes force hands (fun m => s.testBit m = true) D.1 := by
  intro D s
  obtain ⟨C, hC, hc⟩ := shareS_hold (takes := takes) h5 hlt hf w0
  have hb0 : ∀ x, (bitsP (fun m => decide (0 < D.2 m)) 5 0).testBit x = true ↔ x < 5 ∧ 0 < D.2 x := fun x => by
    rw [bitsP_tb]; simp
  have hsub : ∀ x, s.testBit x = true → C x := heldL_sub (fun h hh hx o ho hp => (hc h hh hx).2 o ho hp) 32 _ fun x hx => hC x ((hb0 x).1 hx).1 ((hb0 x).1 hx).2
  have hfix : heldR takes D.1 s hands s = s := heldL_fix 32 _ (bitsP_lt (Nat.le_refl _) (by omega)) (by omega)
  refine ⟨fun m hm hp => heldL_up 32 _ m ((hb0 m).2 ⟨hm, hp⟩), fun h hh ⟨m, hm, hms, ht⟩ => ⟨(hc h hh ⟨m, hm, hsub m hms, ht⟩).1, fun o ho hp => ?_⟩⟩
  show s.testBit o = true
  rw [← hfix]
  exact heldR_tb.2 (.inr ⟨h, hh, ⟨m, setL_mem'.2 ⟨hm, hms⟩, ht⟩, ho, hp⟩)

variable (h5 : nh ≤ 5) (hlt : ∀ h ∈ hands, h < nh) (hf : ∀ h, h < nh → 0 ≤ force h) (w0 : Nat → Nat)
include h5 hlt hf
theorem total_le (s : Nat) : sumN nh (fun h => sum5 ((shareS takes force hands w0 5).1 h)) ≤ behL nh takes force hands s + exS s (fun m => (w0 m : Int)) := by
  refine share_le (shareS_ok (takes := takes) h5 hlt hf w0 5 (Nat.le_refl _)).1 (fun h _ hn m _ => by rw [shareS_out 5 h hn]) (fun m _ => ?_) s
  have := shareS_tot (takes := takes) h5 hlt hf w0 5 (Nat.le_refl _) m
  omega
theorem total_eq : sumN nh (fun h => sum5 ((shareS takes force hands w0 5).1 h)) = behL nh takes force hands (heldD takes (shareS takes force hands w0 5).1 hands (shareS takes force hands w0 5).2) + exS (heldD takes (shareS takes force hands w0 5).1 hands (shareS takes force hands w0 5).2) (fun m => (w0 m : Int)) := by
  obtain ⟨a, b⟩ := sharing (takes := takes) h5 hlt hf w0
  refine share_eq (shareS_ok (takes := takes) h5 hlt hf w0 5 (Nat.le_refl _)).1 (fun h _ hn m _ => by rw [shareS_out 5 h hn]) (fun m hm hs => ?_) b
  have := shareS_tot (takes := takes) h5 hlt hf w0 5 (Nat.le_refl _) m
  have hz : ¬ 0 < (shareS takes force hands w0 5).2 m := fun hp => by
    have := a m hm hp
    rw [this] at hs; cases hs
  omega
/-- What is left in all. -/
theorem left_sum : sumN nh (fun h => sum5 ((shareS takes force hands w0 5).1 h)) + sum5 (fun m => ((shareS takes force hands w0 5).2 m : Int)) = sum5 (fun m => (w0 m : Int)) := by
  have e : sumN nh (fun h => sum5 ((shareS takes force hands w0 5).1 h)) = sum5 (tot nh (shareS takes force hands w0 5).1) := by
    unfold sum5 tot; rw [sumN_swap]
  rw [e]
  unfold sum5
  rw [← sumN_add]
  exact sumN_congr fun m _ => shareS_tot h5 hlt hf w0 5 (Nat.le_refl _) m
/-- Nothing is left just if no set holds up. -/
theorem left_none : (∀ m, m < 5 → (shareS takes force hands w0 5).2 m = 0) ↔ ∀ s, inS s (fun m => (w0 m : Int)) ≤ behL nh takes force hands s := by
  have hl := left_sum (takes := takes) h5 hlt hf w0
  constructor
  · intro hz s
    have h1 := total_le (takes := takes) h5 hlt hf w0 s
    have h2 := in_ex s (fun m => (w0 m : Int))
    have h3 : sum5 (fun m => ((shareS takes force hands w0 5).2 m : Int)) = 0 := by
      unfold sum5; rw [← sumN_zero 5]
      exact sumN_congr fun m hm => by rw [hz m hm]; rfl
    omega
  · intro hs m hm
    have h1 := total_eq (takes := takes) h5 hlt hf w0
    have h2 := in_ex (heldD takes (shareS takes force hands w0 5).1 hands (shareS takes force hands w0 5).2) (fun m => (w0 m : Int))
    have h3 := hs (heldD takes (shareS takes force hands w0 5).1 hands (shareS takes force hands w0 5).2)
    have h4 : ((shareS takes force hands w0 5).2 m : Int) ≤ sum5 (fun m => ((shareS takes force hands w0 5).2 m : Int)) := sumN_one (n := 5) (f := fun m => ((shareS takes force hands w0 5).2 m : Int)) (fun i _ => by omega) hm
    omega
/-- By how much the set that is told holds up. -/
theorem held_by : inS (heldD takes (shareS takes force hands w0 5).1 hands (shareS takes force hands w0 5).2) (fun m => (w0 m : Int)) - behL nh takes force hands (heldD takes (shareS takes force hands w0 5).1 hands (shareS takes force hands w0 5).2) = sum5 (fun m => ((shareS takes force hands w0 5).2 m : Int)) := by
  have hl := left_sum (takes := takes) h5 hlt hf w0
  have h1 := total_eq (takes := takes) h5 hlt hf w0
  have h2 := in_ex (heldD takes (shareS takes force hands w0 5).1 hands (shareS takes force hands w0 5).2) (fun m => (w0 m : Int))
  omega
end
end Go.Sx

/- What can be kept clean, and the fewest hands for it: plain. -/
namespace Go.Sx

theorem sumN_range (n : Nat) (f : Nat → Int) : sumN n f = ((List.range n).map f).sum := by
  induction n with
  | zero => rfl
  | succ n ih => simp only [sumN, ih, List.range_succ, List.map_append, List.sum_append, List.map_cons, List.map_nil, List.sum_cons, List.sum_nil]; omega
theorem sumN_getD (l : List Nat) (g : Nat → Int) : sumN l.length (fun i => g (l.getD i 0)) = sumL l g := by
  rw [sumN_range]
  unfold sumL
  congr 1
  apply List.ext_getElem
  · simp
  · intro i h1 h2
    simp only [List.length_map] at h2
    simp [List.getD_eq_getElem?_getD, h2]
theorem sumN_single {n x : Nat} (hx : x < n) (v : Int) : sumN n (fun i => if i = x then v else 0) = v := by
  have := sumN_upd (n := n) (f := fun _ => 0) (g := fun i => if i = x then v else 0) (i := x) (d := v) hx (fun j _ hj => by simp [hj]) (by simp)
  rw [this, sumN_zero]; omega
theorem sumN_mem {n : Nat} {g : Nat → Int} : ∀ {l : List Nat}, l.Nodup → (∀ x ∈ l, x < n) → sumN n (fun i => if l.contains i = true then g i else 0) = sumL l g
  | [], _, _ => by simp [sumL, sumN_zero]
  | x :: l, hn, hl => by
    rw [List.nodup_cons] at hn
    have ih := sumN_mem (n := n) (g := g) hn.2 fun y hy => hl y (by simp [hy])
    have e : sumN n (fun i => if (x :: l).contains i = true then g i else 0) = sumN n (fun i => (if i = x then g x else 0) + if l.contains i = true then g i else 0) := by
      refine sumN_congr fun i _ => ?_
      by_cases e : i = x
      · subst e
        simp [hn.1]
      · simp [e]
    rw [e, sumN_add, ih, sumN_single (hl x (by simp))]
    simp [sumL]
theorem behL_sum {nh : Nat} {takes : Nat → Nat → Bool} {force : Nat → Int} {l : List Nat} (hn : l.Nodup) (hl : ∀ x ∈ l, x < nh) (s : Nat) : behL nh takes force l s = sumL l fun i => if anyT (takes i) s = true then force i else 0 := by
  rw [← sumN_mem (n := nh) hn hl]
  unfold behL
  refine sumN_congr fun i _ => ?_
  cases h1 : l.contains i <;> cases h2 : anyT (takes i) s <;> simp
theorem behL_all (n : Nat) (takes : Nat → Nat → Bool) (force : Nat → Int) (s : Nat) : behL n takes force (List.range n) s = sumN n fun i => if anyT (takes i) s = true then force i else 0 := by
  unfold behL
  refine sumN_congr fun i hi => ?_
  have : (List.range n).contains i = true := by simp [hi]
  rw [this, Bool.true_and]
theorem behL_mono {nh : Nat} {takes : Nat → Nat → Bool} {force : Nat → Int} {l r : List Nat} (hf : ∀ i, i < nh → 0 ≤ force i) (h : ∀ x ∈ l, x ∈ r) (s : Nat) : behL nh takes force l s ≤ behL nh takes force r s := by
  unfold behL
  refine sumN_le fun i hi => ?_
  have := hf i hi
  cases h1 : l.contains i with
  | false =>
    simp only [Bool.false_and, Bool.false_eq_true, if_false]
    split <;> omega
  | true =>
    have h2 : r.contains i = true := by
      have : i ∈ r := h i (by simpa using h1)
      simpa using this
    rw [h2]; exact Int.le_refl _

theorem clean_iff {b : BeltD} {want : (Nat → Int) → Nat → Int} {hands : List Nat} : cleanB b want hands = true ↔ ∀ t, t < b.nt → ∀ m, m < 5 → (shB b want t hands).2 m = 0 := by
  unfold cleanB
  rw [decide_eq_true_eq]
  have hd : ∀ t, dirtyB b want hands t = false ↔ ∀ m, m < 5 → (shB b want t hands).2 m = 0 := fun t => by
    unfold dirtyB
    rw [Bool.not_eq_false', allI_iff]
    simp
  constructor
  · intro h t ht
    rw [← hd]
    unfold firstB at h
    cases hf : (List.range b.nt).find? (dirtyB b want hands) with
    | none =>
      simp only [List.find?_eq_none] at hf
      simpa using hf t (by simpa using ht)
    | some k =>
      rw [hf] at h
      simp only [Option.getD_some] at h
      have := List.mem_of_find?_eq_some hf
      simp at this; omega
  · intro h
    exact first_none fun i hi => (hd i).2 (h i hi)
/-- All trays can be kept clean just if no set holds one up. -/
theorem clean_hall {b : BeltD} (hk : BOK b) {left : Nat → Int} {hands : List Nat} (hlt : ∀ x ∈ hands, x < b.nh) :
    cleanB b (keptD left) hands = true ↔ ∀ t, t < b.nt → ∀ s, inS s (keptD left (b.tray t)) ≤ behL b.nh (takesB b) (forceB b t) hands s := by
  rw [clean_iff]
  have hf : ∀ t i, i < b.nh → 0 ≤ forceB b t i := fun t i hi => (forceD_bound (hk.ok i hi) t).1
  have key : ∀ t, (∀ m, m < 5 → (shB b (keptD left) t hands).2 m = 0) ↔ ∀ s, inS s (keptD left (b.tray t)) ≤ behL b.nh (takesB b) (forceB b t) hands s := fun t => by
    have := left_none (takes := takesB b) hk.h5 hlt (hf t) (fun m => (keptD left (b.tray t) m).toNat)
    have e : (fun m => (((keptD left (b.tray t) m).toNat : Nat) : Int)) = keptD left (b.tray t) := by
      funext m; unfold keptD; omega
    rw [e] at this
    exact this
  constructor
  · intro h t ht; exact (key t).1 (h t ht)
  · intro h t ht; exact (key t).2 (h t ht)
theorem clean_mono {b : BeltD} (hk : BOK b) {left : Nat → Int} {l r : List Nat} (hl : ∀ x ∈ l, x < b.nh) (hr : ∀ x ∈ r, x < b.nh) (hs : ∀ x ∈ l, x ∈ r) (h : cleanB b (keptD left) l = true) : cleanB b (keptD left) r = true := by
  rw [clean_hall hk hr]
  intro t ht s
  have h1 := (clean_hall hk hl).1 h t ht s
  have h2 := behL_mono (takes := takesB b) (force := forceB b t) (fun i hi => (forceD_bound (hk.ok i hi) t).1) hs s
  omega

/-! ### A belt with some hands alone -/
def selB (b : BeltD) (l : List Nat) : BeltD := ⟨b.nt, b.tray, l.length, fun i => b.hand (l.getD i 0)⟩
theorem selB_ok {b : BeltD} (hk : BOK b) {l : List Nat} (hl : ∀ x ∈ l, x < b.nh) (hlen : l.length ≤ 5) : BOK (selB b l) := by
  have hm : ∀ i, i < l.length → l.getD i 0 < b.nh := fun i hi => hl _ (by simp [List.getD_eq_getElem?_getD, hi])
  exact ⟨hk.n1, hk.n8, hlen, hk.tr, fun i hi => hk.ok _ (hm i hi), fun i hi => hk.sl _ (hm i hi), fun i hi => hk.re _ (hm i hi), fun i hi => hk.ri _ (hm i hi)⟩
theorem clean_sel {b : BeltD} (hk : BOK b) {left : Nat → Int} {l : List Nat} (hn : l.Nodup) (hl : ∀ x ∈ l, x < b.nh) (hlen : l.length ≤ 5) : cleanB (selB b l) (keptD left) (allH (selB b l)) = cleanB b (keptD left) l := by
  rw [Bool.eq_iff_iff, clean_hall (selB_ok hk hl hlen) (allH_lt _), clean_hall hk hl]
  have e : ∀ t s, behL (selB b l).nh (takesB (selB b l)) (forceB (selB b l) t) (allH (selB b l)) s = behL b.nh (takesB b) (forceB b t) l s := fun t s => by
    rw [behL_sum hn hl]
    show behL l.length _ _ (List.range l.length) s = _
    rw [behL_all, ← sumN_getD]
    rfl
  constructor
  · intro h t ht s; have := h t ht s; rw [e] at this; exact this
  · intro h t ht s; rw [e]; exact h t ht s

/-! ### Lists in their order -/
theorem cmp1_cases (x y : Int) : (x < y ∧ cmp1 x y = -1) ∨ (x = y ∧ cmp1 x y = 0) ∨ (y < x ∧ cmp1 x y = 1) := by
  unfold cmp1
  by_cases h : x < y
  · left; simp [h]
  · by_cases h2 : y < x
    · right; right; simp [h, h2]
    · right; left; simp [h, h2]; omega
theorem cmpD_trans : ∀ {x y z : List Int}, cmpD x y < 0 → cmpD y z < 0 → cmpD x z < 0
  | [], [], _, h, _ => by simp [cmpD] at h
  | [], _ :: _, [], _, h => by simp [cmpD] at h
  | [], _ :: _, _ :: _, _, _ => by simp [cmpD]
  | _ :: _, [], _, h, _ => by simp [cmpD] at h
  | _ :: _, _ :: _, [], _, h => by simp [cmpD] at h
  | x :: xs, y :: ys, z :: zs, h1, h2 => by
    simp only [cmpD] at h1 h2 ⊢
    rcases cmp1_cases x y with ⟨a, a'⟩ | ⟨a, a'⟩ | ⟨a, a'⟩ <;> rcases cmp1_cases y z with ⟨c, c'⟩ | ⟨c, c'⟩ | ⟨c, c'⟩ <;> rcases cmp1_cases x z with ⟨d, d'⟩ | ⟨d, d'⟩ | ⟨d, d'⟩ <;> rw [a'] at h1 <;> rw [c'] at h2 <;> rw [d'] <;> first | omega | simp_all
    exact cmpD_trans h1 h2
theorem cmpD_self : ∀ x : List Int, cmpD x x = 0
  | [] => rfl
  | x :: xs => by
    have : cmp1 x x = 0 := by simp [cmp1]
    simp [cmpD, this, cmpD_self xs]
def lessL (l r : List Nat) : Prop := l.length < r.length ∨ (l.length = r.length ∧ cmpD (natsI l) (natsI r) < 0)
theorem lessL_trans {x y z : List Nat} (h : lessL x y) (k : lessL y z) : lessL x z := by
  rcases h with h | ⟨h, h'⟩ <;> rcases k with k | ⟨k, k'⟩
  · left; omega
  · left; omega
  · left; omega
  · right; exact ⟨h.trans k, cmpD_trans h' k'⟩
theorem lessL_irr (x : List Nat) : ¬ lessL x x := by
  rintro (h | ⟨_, h⟩)
  · omega
  · rw [cmpD_self] at h; omega
theorem candB_iff {best l : List Nat} : candB best true l = true ↔ lessL l best := by
  unfold candB lessL
  simp

/-! ### The fewest -/
structure FewI (b : BeltD) (left : Nat → Int) (k : Nat) (S : List Nat × Bool) : Prop where
  yes : S.2 = true → (∃ n, n < k ∧ S.1 = bitsN n b.nh) ∧ cleanB b (keptD left) S.1 = true ∧ ∀ n, n < k → cleanB b (keptD left) (bitsN n b.nh) = true → ¬ lessL (bitsN n b.nh) S.1
  no : S.2 = false → ∀ n, n < k → cleanB b (keptD left) (bitsN n b.nh) = false
theorem few_inv (b : BeltD) (left : Nat → Int) : ∀ k, FewI b left k (fewF b left k)
  | 0 => ⟨fun h => (by cases h), fun _ n hn => (by omega)⟩
  | k + 1 => by
    have ih := few_inv b left k
    rw [fewF_succ]
    obtain ⟨yes, no⟩ := ih
    generalize fewF b left k = S at yes no
    obtain ⟨best, found⟩ := S
    simp only at yes no
    unfold stepF
    cases hcl : cleanB b (keptD left) (bitsN k b.nh) with
    | false =>
      rw [Bool.and_false, if_neg (by simp)]
      refine ⟨fun hf => ?_, fun hf n hn => ?_⟩
      · obtain ⟨⟨n, hn, e⟩, h2, h3⟩ := yes hf
        refine ⟨⟨n, by omega, e⟩, h2, fun n hn hc => ?_⟩
        by_cases e : n = k
        · subst e; rw [hcl] at hc; cases hc
        · exact h3 n (by omega) hc
      · by_cases e : n = k
        · subst e; exact hcl
        · exact no hf n (by omega)
    | true =>
      cases found with
      | false =>
        have hc : candB best false (bitsN k b.nh) = true := by simp [candB]
        simp only [hc, Bool.and_true, if_true]
        refine ⟨fun _ => ⟨⟨k, by omega, rfl⟩, hcl, fun n hn hc hless => ?_⟩, fun h => (by cases h)⟩
        by_cases e : n = k
        · subst e; exact lessL_irr _ hless
        · have := no rfl n (by omega); rw [this] at hc; cases hc
      | true =>
        obtain ⟨⟨n0, hn0, e0⟩, h2, h3⟩ := yes rfl
        cases hc : candB best true (bitsN k b.nh) with
        | true =>
          simp only [Bool.and_true, if_true, hc]
          refine ⟨fun _ => ⟨⟨k, by omega, rfl⟩, hcl, fun n hn hcn hless => ?_⟩, fun h => (by cases h)⟩
          by_cases e : n = k
          · subst e; exact lessL_irr _ hless
          · exact h3 n (by omega) hcn (lessL_trans hless (candB_iff.1 hc))
        | false =>
          simp only [Bool.false_and, Bool.false_eq_true, if_false, hc]
          refine ⟨fun _ => ⟨⟨n0, by omega, e0⟩, h2, fun n hn hcn hless => ?_⟩, fun h => (by cases h)⟩
          by_cases e : n = k
          · subst e; rw [candB_iff.2 hless] at hc; cases hc
          · exact h3 n (by omega) hcn hless
theorem filt_bits (p : Nat → Bool) (n : Nat) : ∃ k, k < 2 ^ n ∧ (List.range n).filter p = bitsN k n := by
  refine ⟨bitsP p n 0, Nat.lt_pow_two_of_testBit _ fun i hi => ?_, ?_⟩
  · rw [bitsP_tb]
    have : ¬ i < n := by omega
    simp [this]
  · unfold bitsN
    refine List.filter_congr fun i hi => ?_
    rw [bitsP_tb]
    have : i < n := List.mem_range.1 hi
    simp [this]
theorem filt_lt {p : Nat → Bool} {n x : Nat} (h : x ∈ (List.range n).filter p) : x < n := by simp only [List.mem_filter, List.mem_range] at h; exact h.1
theorem filt_nodup (p : Nat → Bool) (n : Nat) : ((List.range n).filter p).Nodup := List.Pairwise.filter p List.nodup_range
structure Enough (b : BeltD) (left : Nat → Int) (S : List Nat × Bool) : Prop where
  all : S.2 = cleanB b (keptD left) (allH b)
  some : S.2 = true → (∃ p, S.1 = (List.range b.nh).filter p) ∧ cleanB b (keptD left) S.1 = true
  less : S.2 = true → ∀ p, cleanB b (keptD left) ((List.range b.nh).filter p) = true → ¬ lessL ((List.range b.nh).filter p) S.1
  none : S.2 = false → ∀ p, cleanB b (keptD left) ((List.range b.nh).filter p) = false
theorem enough {b : BeltD} (hk : BOK b) (left : Nat → Int) : Enough b left (fewB b left) := by
  have h := few_inv b left (2 ^ b.nh)
  have e : fewF b left (2 ^ b.nh) = fewB b left := rfl
  rw [e] at h
  generalize fewB b left = S at h
  obtain ⟨yes, no⟩ := h
  have none : S.2 = false → ∀ p, cleanB b (keptD left) ((List.range b.nh).filter p) = false := fun hf p => by
    obtain ⟨k, hk, e⟩ := filt_bits p b.nh
    rw [e]; exact no hf k hk
  refine ⟨?_, fun hf => ?_, fun hf p hc => ?_, none⟩
  · have ea : (List.range b.nh).filter (fun _ => true) = allH b := by unfold allH; rw [List.filter_eq_self]; simp
    cases hf : S.2 with
    | false => have := none hf fun _ => true; rw [ea] at this; exact this.symm
    | true =>
      obtain ⟨⟨n, _, e⟩, h2, _⟩ := yes hf
      rw [e] at h2
      exact (clean_mono hk (fun x hx => bitsN_lt hx) (allH_lt b) (fun x hx => by have := bitsN_lt hx; simpa [allH] using this) h2).symm
  · obtain ⟨⟨n, _, e⟩, h2, _⟩ := yes hf
    exact ⟨⟨_, e⟩, h2⟩
  · obtain ⟨k, hk, e⟩ := filt_bits p b.nh
    rw [e] at hc ⊢
    exact (yes hf).2.2 k hk hc
end Go.Sx

/- A belt with some hands alone, kept clean. -/
namespace Go.Sx
open Go.Proofs
set_option maxRecDepth 100000
theorem one_handV {H : HandD} {v : Value} (hv : v.oneCell' = true) : (handL H v).all Value.oneCell' = true := by
  rw [List.all_eq_true]
  intro q hq
  simp only [handL, row, List.mem_map, hcell] at hq
  obtain ⟨j, _, rfl⟩ := hq
  repeat' split
  all_goals first | rfl | exact hv
theorem IsInts.one {h : Heap} {v : Value} {l : List Int} (x : IsInts h v l) : v.oneCell' = true := by
  obtain ⟨_, ad, cp, rfl, _⟩ := x; rfl
theorem kept_ok {b : BeltD} (hk : BOK b) {left : Nat → Int} (hl : piecesD left = true) : keptE b left = 0 := by
  unfold keptE
  rw [check_ok.2 hk, if_pos rfl, if_pos hl]
theorem natsI_get {F : List Nat} {i : Nat} (hi : i < (natsI F).length) : (natsI F)[i] = ((F[i]'(by rwa [natsI_len] at hi) : Nat) : Int) := by simp [natsI]
attribute [local irreducible] Code.wpIn wpListIn Exit.then Exit.inBlock BQ Again Hd St En OpT box blk RQ BQ0 fmap own Desk Chute
end Go.Sx

/- A belt, cloned. -/
namespace Go.Sx
open Go.Proofs
set_option maxRecDepth 100000
/-- A belt of one's own: its trays and hands may be changed. -/
def CloneR (b : BeltD) (v : Value) (h' : Heap) (Γ' : List HP) : Prop :=
  ∃ (tad : Option Addr) (tcp : Nat) (had : Option Addr) (hcp : Nat) (rv : Nat → Value), v = .agg #[.slice tad b.nt tcp, .slice had b.nh hcp] ∧ (∀ i, i < b.nh → IsInts h' (rv i) (b.hand i).rests) ∧
    Γ' = [own 31 5 (.slice tad b.nt tcp) b.nt (rows b.nt 5 (icell b.tray)), own 41 9 (.slice had b.nh hcp) b.nh (rows b.nh 9 fun i => hcell (b.hand i) (rv i))]
structure Small (b : BeltD) : Prop where
  nt : b.nt ≤ 1000
  nh : b.nh ≤ 1000
  re : ∀ i, i < b.nh → (b.hand i).rests.length ≤ 1000
theorem hands_snoc' (k : Nat) (H : Nat → HandD) (rv : Nat → Value) (r : Value) : rows k 9 (fun i => hcell (H i) (rv i)) ++ handL (H k) r = rows (k + 1) 9 (fun i => hcell (H i) ((fun i => if i = k then r else rv i) i)) := by
  rw [rows_succ]
  congr 1
  · refine rows_congr fun i j hi _ => ?_
    have : i ≠ k := by omega
    simp [this]
  · refine row_congr fun j _ => ?_
    simp
theorem rests_len {n : Nat} : ∀ {l : List Int}, (∀ j, j < l.length → 0 ≤ l.getD j 0 ∧ l.getD j 0 < n) → risesD l = true → l.length ≤ n := fun {l} hr hs => by
  have key : ∀ j, j < l.length → (j : Int) ≤ l.getD j 0 := fun j => by
    induction j with
    | zero => intro h; have := (hr 0 h).1; omega
    | succ j ih =>
      intro h
      have h1 := ih (by omega)
      have h2 := allI_iff.1 hs j (by omega)
      simp only [decide_eq_true_eq] at h2
      omega
  rcases Nat.eq_zero_or_pos l.length with h | h
  · omega
  · have h1 := key (l.length - 1) (by omega)
    have h2 := (hr (l.length - 1) (by omega)).2
    omega
theorem BOK.small {b : BeltD} (hk : BOK b) : Small b :=
  ⟨by have := hk.n8; omega, by have := hk.h5; omega, fun i hi => by have := rests_len (hk.re i hi) (hk.ri i hi); have := hk.n8; omega⟩
attribute [local irreducible] Code.wpIn wpListIn Exit.then Exit.inBlock BQ Again Hd St En OpT box blk RQ BQ0 fmap own Desk Chute
theorem clone_ct (h : Heap) (v : Value) (b : BeltD) (hb : IsBelt h v b) (hs : Small b) : CT Try.prog 22 [v] h [] (CloneR b) := by
  obtain ⟨tv, hv, rfl, hT, hH⟩ := hb
  have hT0 := hT
  obtain ⟨rv, ⟨_, had, hcp, rfl, hm1, hc1, hp1⟩, hr⟩ := hH
  obtain ⟨tl, tad, tcp, rfl, tm1, tc1, tp1⟩ := hT
  have hnt := hs.nt
  have hnh := hs.nh
  refine ct_intro Try.func22 rfl rfl rfl rfl fun Φ => ?_
  refine en_seq <| en_region <| en_box rfl rfl rfl fun b1 => en_alloc rfl fun b2 => ?_
  refine en_nil <| en_then <| en_seq <| en_region <| en_det (opT_fieldAddr rfl) rfl <| en_det (opT_load_own rfl rfl) rfl <| ?_
  refine en_call (copy60_ct h _ b.nt _ hT0 (one_ints _ _ _) hnt) rfl rfl rfl rfl fun v h1 Γ' s1 hv => ?_
  obtain ⟨ad8, cp8, rfl, rfl⟩ := hv
  refine en_norm ?_
  refine en_det (opT_build (cs := [.slice ad8 b.nt cp8, nilS]) rfl (by kernel_rfl)) rfl <| en_alloc rfl fun b3 => ?_
  refine en_det0 (opT_storeW rfl rfl rfl rfl (by simp [Value.oneCell', nilS])) <| en_nil <| en_then <| en_seq <| en_seq <| en_region <| en_det (opT_fieldAddr rfl) rfl <| en_det (opT_load_own rfl rfl) rfl <| en_det (opT_len rfl) rfl <| en_det (opT_move rfl) rfl <| en_nil <| en_then <| en_block <| ?_
  refine en_own_nil 41 9 ?_
  refine en_keep [own 41 9 (.slice none 0 0) 0 [], box b3 26 [.slice ad8 b.nt cp8, nilS], own 31 5 (.slice ad8 b.nt cp8) b.nt (rows b.nt 5 (icell b.tray)), box b2 26 [.slice none 0 0, .slice none 0 0]] ?_
  refine en_loop (fun x : Nat × (Nat → Value) × Option Addr × Nat × Heap => x.1 ≤ b.nh ∧ h1.sub x.2.2.2.2 ∧ x.1 ≤ x.2.2.2.1 ∧ x.2.2.2.1 ≤ 9223372036854775807 ∧ (∀ i, i < x.1 → IsInts x.2.2.2.2 (x.2.1 i) (b.hand i).rests)) (fun x => [(2, pt b2), (3, pt b3), (11, .slice had b.nh hcp), (12, .int .i64 b.nh), (13, .int .i64 x.1)]) (fun x => x.2.2.2.2) (fun x => [own 41 9 (.slice x.2.2.1 x.1 x.2.2.2.1) x.1 (rows x.1 9 (fun i => hcell (b.hand i) (x.2.1 i))), box b3 26 [.slice ad8 b.nt cp8, .slice x.2.2.1 x.1 x.2.2.2.1], own 31 5 (.slice ad8 b.nt cp8) b.nt (rows b.nt 5 (icell b.tray)), box b2 26 [nilS, nilS]]) (fun x => b.nh - x.1) (0, (fun _ => nilS), none, 0, h1) ⟨by simp, .refl _, by simp, by simp, fun i hi => by simp at hi⟩ ⟨rfl, rfl, rfl, rfl, rfl, trivial⟩ (.refl _) (tkAll _) fun x hx => ?_
  obtain ⟨k, rw', ad, cp, h2⟩ := x
  obtain ⟨hk, s2, hc1', hc2', hR⟩ := hx
  simp only at hk s2 hc1' hc2' hR
  change En _ _ _ [(2, pt b2), (3, pt b3), (11, .slice had b.nh hcp), (12, .int .i64 b.nh), (13, .int .i64 k)] h2 [own 41 9 (.slice ad k cp) k (rows k 9 (fun i => hcell (b.hand i) (rw' i))), box b3 26 [.slice ad8 b.nt cp8, .slice ad k cp], own 31 5 (.slice ad8 b.nt cp8) b.nt (rows b.nt 5 (icell b.tray)), box b2 26 [nilS, nilS]]
  refine en_seq <| en_region <| ?_
  first | refine en_det (opT_lss_t rfl rfl (by omega)) rfl ?_ | refine en_det (opT_lss_f rfl rfl (by omega)) rfl ?_ | refine en_det (opT_lss rfl rfl) rfl ?_
  refine en_nil <| en_then <| en_seq <| ?_
  refine en_if rfl (fun hlt => ?_) (fun hlt => ?_)
  · skip
    have hkn : k < b.nh := by omega
    obtain ⟨hbb, hoff, rfl, hcells⟩ := hp1 (by omega)
    have hrow : CellsH h2 hbb (hoff + k * 9) (handL (b.hand k) (rv k)) := (hcells.row hkn).mono (s1.trans s2)
    have hrk := (hr k hkn).mono (s1.trans s2)
    have hone := hrk.one
    have hlen := hs.re k hkn
    generalize hrv : rv k = r at hrow hrk hone
    refine en_skip <| en_then <| en_seq <| en_block <| en_seq <| en_region <| ?_
    first | refine en_det (opT_idx1 rfl rfl (by omega) (by omega)) rfl ?_ | refine en_det (opT_idx (ks := 0) rfl rfl (by omega) (by omega)) rfl ?_
    refine en_det (opT_loadA_h rfl hrow (row_length _ _)) rfl <| en_alloc rfl fun b5 => ?_
    refine en_det0 (opT_storeW rfl rfl (row_length _ _) rfl (List.all_eq_true.1 (one_handV hone))) <| en_nil <| en_then <| en_seq <| en_region <| en_det (opT_fieldAddr rfl) rfl <| en_det (opT_load_own (v := r) rfl rfl) rfl <| ?_
    refine en_call (copy77_ct h2 r (b.hand k).rests.length _ hrk (by simp [Value.oneCell']) hlen) rfl rfl rfl rfl fun v h3 Γ' s3 hv => ?_
    obtain ⟨ad19, cp19, rfl, rfl⟩ := hv
    refine en_norm ?_
    refine en_freeze_own fun h4 s4 hsl _ => ?_
    refine en_det (opT_fieldAddr rfl) rfl <| en_det0 (opT_store1s rfl rfl rfl (by rw [row_length]; omega)) <| ?_
    rw [hand_rest]
    refine en_nil <| en_then <| en_region <| en_det (opT_fieldAddr rfl) rfl <| en_det (opT_load_own (v := .slice ad k cp) rfl rfl) rfl <| en_det (opT_loadW_own rfl (row_length _ _)) rfl <| ?_
    refine en_op (opT_buildSlice (cs := handL (b.hand k) (.slice ad19 (b.hand k).rests.length cp19)) rfl rfl (by kernel_rfl)) rfl fun _ _ _ _ ⟨b24, e1, e2, e3⟩ => ?_
    subst e1 e3; replace e2 := e2.symm; subst e2
    refine en_app1 rfl rfl rfl rfl rfl rfl rfl (by omega) fun ad25 cp25 hm25 hc25 => ?_
    refine en_det (opT_fieldAddr rfl) rfl <| en_det0 (opT_store1 rfl rfl rfl) <| en_nil <| en_blk <| en_then <| en_region <| en_det (opT_add rfl rfl (by constructor <;> omega)) rfl <| en_det (opT_move rfl) rfl <| en_nil <| en_then <| ?_
    rw [hands_snoc']
    refine en_again (k + 1, (fun i => if i = k then .slice ad19 (b.hand k).rests.length cp19 else rw' i), ad25, cp25, h4) ⟨by simp only; omega, s2.trans (s3.trans s4), by simp only; omega, by simp only; omega, fun i hi => ?_⟩ (by simp only; omega) ⟨rfl, rfl, rfl, rfl, gi rfl (by simp), trivial⟩ (.refl _) inferInstance
    simp only at hi ⊢
    split
    · rename_i e; subst e; exact hsl
    · exact (hR i (by omega)).mono (s3.trans s4)
  · skip
    obtain rfl : k = b.nh := by omega
    refine en_exit <| en_then_exit <| en_then_exit <| en_blk_hit <| en_then <| en_seq <| en_region <| ?_
    first | refine en_det (opT_loadW_own rfl rfl) rfl ?_ | refine en_det (opT_loadA_own rfl) rfl ?_
    first | refine en_det0 (opT_storeW rfl rfl rfl rfl (by simp [Value.oneCell'])) ?_ | refine en_det0 (opT_storeA rfl rfl rfl (by simp [Value.oneCell'])) ?_
    refine en_nil <| en_then <| en_ret <| ?_
    refine en_return (rs := [.cell 2 26]) rfl (.cons (res_cellA rfl rfl) .nil) (s1.trans s2) ⟨_, _, _, _, rw', rfl, hR, rfl⟩
end Go.Sx

/- Belts, trays and lists of numbers among what a law is handed. -/
namespace Go.Sx
open Go.Proofs
set_option maxRecDepth 100000
open Go.ChangeShapes Go.WideShapes Go.ChangeAt Go.RowKit
section
variable {H : Type} {enc : TypeId × Value → H} {P : Program} {W : World} {base : Nat} {sp : Nat → Bool} {held : Bool}
theorem cells_open {a : Addr} {n : Nat} {cs : List Value} (h : W.cells? base a n = some cs) (hn : 0 < n) : ∃ b off, a = ⟨b, off, none⟩ ∧ cs.length = n ∧ CellsH (Heap.ofWorld W) b off cs := by
  obtain ⟨_, hl, hc⟩ := World.cells?_some h
  obtain ⟨b, off, spot⟩ := a
  have hs : spot = none := by
    have h0 := hc 0 hn
    rw [List.getElem?_eq_getElem (by omega)] at h0
    simpa [Addr.add] using World.cell?_spot h0
  subst hs
  refine ⟨b, off, rfl, hl, fun j u hj => ?_⟩
  have hjl : j < n := by rw [← hl]; exact (List.getElem?_eq_some_iff.1 hj).1
  have h1 := hc j hjl
  rw [hj, add_plain] at h1
  exact ofWorld_cell h1
theorem rows_cells {h : Heap} {b off n w : Nat} {f : Nat → Nat → Value} (hw : 0 < w) (c : ∀ i, i < n → CellsH h b (off + i * w) (row w (f i))) : CellsH h b off (rows n w f) := fun k u hk => by
  have hkl : k < n * w := by have := (List.getElem?_eq_some_iff.1 hk).1; rwa [rows_length] at this
  have hi : k / w < n := Nat.div_lt_of_lt_mul (by rw [Nat.mul_comm]; exact hkl)
  have hj : k % w < w := Nat.mod_lt _ hw
  have e : k / w * w + k % w = k := by rw [Nat.mul_comm]; exact Nat.div_add_mod k w
  rw [← e] at hk ⊢
  rw [rows_get hi hj] at hk
  rw [← Nat.add_assoc]
  exact c _ hi _ _ (by rw [row_get hj]; exact hk)
theorem trod_rows {t e : TypeId} {v : Value} {fuel : Nat} {x : DataW H × List MemPlace} {sz : Nat} (ht : P.underlying t = some (.slice e)) (hc : P.cellsOf e = sz) (hsz : 0 < sz) (h : DataW.trod enc P W base sp held fuel t [v] = some x) :
    ∃ (n : Nat) (f : Nat → Nat → Value) (fuel' : Nat), SlH (Heap.ofWorld W) sz v n (rows n sz f) ∧ ∀ i, i < n → ∃ y, DataW.trod enc P W base sp held fuel' e (row sz (f i)) = some y := by
  rcases DataW.trod_slice ht h with ⟨hcs, _⟩ | ⟨a, len, cap, elems, rest, n', _, hcs, _, _, hl, hm, hlen, hel, _⟩
  · simp at hcs; subst hcs
    refine ⟨0, fun _ _ => .bool true, 0, ⟨by rw [rows_length], none, 0, rfl, by omega, by omega, fun h => by omega⟩, fun i hi => by omega⟩
  · simp at hcs; subst hcs
    have ha : 0 < len → ∃ b off, a = ⟨b, off, none⟩ := fun h0 => by
      have h1 := hel 0 h0
      rw [List.getElem?_eq_getElem (by omega), hc, Nat.zero_mul] at h1
      simp only [Option.bind_eq_some_iff] at h1
      obtain ⟨cs, h2, _⟩ := h1
      obtain ⟨b, off, e1, _, _⟩ := cells_open h2 hsz
      exact ⟨b, off, by rw [← e1]; simp [Addr.add]⟩
    have key : ∀ i, ∃ cs : List Value, i < len → ∃ b off, a = ⟨b, off, none⟩ ∧ cs.length = sz ∧ CellsH (Heap.ofWorld W) b (off + i * sz) cs ∧ ∃ y, DataW.trod enc P W base sp held n' e cs = some y := fun i => by
      by_cases hi : i < len
      · have h1 := hel i hi
        rw [List.getElem?_eq_getElem (by omega), hc] at h1
        simp only [Option.bind_eq_some_iff] at h1
        obtain ⟨cs, h2, h3⟩ := h1
        obtain ⟨b, off, e1, h4, h5⟩ := cells_open h2 hsz
        refine ⟨cs, fun _ => ?_⟩
        obtain ⟨b', off', rfl⟩ := ha (by omega)
        rw [add_plain] at e1
        simp only [Addr.mk.injEq, and_true] at e1
        obtain ⟨rfl, rfl⟩ := e1
        exact ⟨_, off', rfl, h4, h5, _, h3⟩
      · exact ⟨[], fun h => absurd h hi⟩
    have hf : ∀ i, i < len → row sz (fun j => ((key i).choose).getD j (.bool true)) = (key i).choose := fun i hi => by
      obtain ⟨b, off, _, hl', _⟩ := (key i).choose_spec hi
      apply List.ext_getElem?
      intro j
      by_cases hj : j < sz
      · rw [row_get hj, List.getD_eq_getElem?_getD, List.getElem?_eq_getElem (by omega)]; rfl
      · rw [List.getElem?_eq_none (by rw [row_length]; omega), List.getElem?_eq_none (by omega)]
    refine ⟨len, fun i j => ((key i).choose).getD j (.bool true), n', ⟨rows_length _ _ _, some a, cap, rfl, hl, by simpa [maxLen] using hm, fun h0 => ?_⟩, fun i hi => ?_⟩
    · obtain ⟨b, off, ea, _⟩ := (key 0).choose_spec h0
      refine ⟨b, off, by rw [ea], rows_cells hsz fun i hi => ?_⟩
      obtain ⟨b', off', ea', _, hcl, _⟩ := (key i).choose_spec hi
      rw [ea] at ea'
      simp only [Addr.mk.injEq, and_true] at ea'
      obtain ⟨rfl, rfl⟩ := ea'
      rw [hf i hi]; exact hcl
    · obtain ⟨_, _, _, _, _, y, hy⟩ := (key i).choose_spec hi
      exact ⟨y, by rw [hf i hi]; exact hy⟩
theorem trod_ints {t e : TypeId} {v : Value} {fuel : Nat} {x : DataW H × List MemPlace} (ht : P.underlying t = some (.slice e)) (he : P.underlying e = some (.int .i64)) (hc : P.cellsOf e = 1) (h : DataW.trod enc P W base sp held fuel t [v] = some x) :
    ∃ l, IsInts (Heap.ofWorld W) v l := by
  obtain ⟨n, f, n', hsl, hy⟩ := trod_rows ht hc (by omega) h
  have key : ∀ i, ∃ z : Int, i < n → f i 0 = .int .i64 z := fun i => by
    by_cases hi : i < n
    · obtain ⟨y, hy⟩ := hy i hi
      obtain ⟨z, hz, _⟩ := DataW.trod_int he hy
      simp [row] at hz
      exact ⟨z, fun _ => hz⟩
    · exact ⟨0, fun h => absurd h hi⟩
  refine ⟨(List.range n).map fun i => (key i).choose, ?_⟩
  have e1 : rows n 1 f = ((List.range n).map fun i => (key i).choose).map (Value.int .i64) := by
    apply List.ext_getElem?
    intro j
    by_cases hj : j < n
    · have h1 := rows_get (f := f) hj (show 0 < 1 by omega)
      rw [Nat.mul_one, Nat.add_zero] at h1
      rw [h1, (key j).choose_spec hj]
      simp [hj]
    · rw [List.getElem?_eq_none (by rw [rows_length]; omega), List.getElem?_eq_none (by simp; omega)]
  unfold IsInts
  rw [List.length_map, List.length_range, ← e1]
  exact hsl
theorem trod_arr5 {α : Type} {mk : α → Value} {t e : TypeId} {cs : List Value} {fuel : Nat} {x : DataW H × List MemPlace} (d : α) (ht : P.underlying t = some (.array 5 e)) (hc : P.cellsOf e = 1) (hct : P.cellsOf t = 5)
    (hone : ∀ fuel c y, DataW.trod enc P W base sp held fuel e c = some y → ∃ z, c = [mk z]) (h : DataW.trod enc P W base sp held fuel t cs = some x) : ∃ g : Nat → α, cs = row 5 fun j => mk (g j) := by
  obtain ⟨xs, m, _, _, hl, hlen, hel⟩ := DataW.trod_array ht h
  rw [hct] at hl
  have key : ∀ j, ∃ z : α, j < 5 → cs[j]? = some (mk z) := fun j => by
    by_cases hj : j < 5
    · have h1 := hel j hj
      rw [hc, Nat.mul_one, List.getElem?_eq_getElem (by omega)] at h1
      obtain ⟨z, hz⟩ := hone _ _ _ h1
      refine ⟨z, fun _ => ?_⟩
      have h2 := congrArg (fun l => l[0]?) hz
      simp only [List.getElem?_take, List.getElem?_drop] at h2
      simpa using h2
    · exact ⟨d, fun h => absurd h hj⟩
  refine ⟨fun j => (key j).choose, ?_⟩
  apply List.ext_getElem?
  intro j
  by_cases hj : j < 5
  · rw [row_get hj, (key j).choose_spec hj]
  · rw [List.getElem?_eq_none (by omega), List.getElem?_eq_none (by rw [row_length]; omega)]
theorem one_int {e : TypeId} (he : P.underlying e = some (.int .i64)) (fuel : Nat) (c : List Value) (y : DataW H × List MemPlace) (h : DataW.trod enc P W base sp held fuel e c = some y) : ∃ z, c = [.int .i64 z] := by
  obtain ⟨z, hz, _⟩ := DataW.trod_int he h; exact ⟨z, hz⟩
theorem one_bool {e : TypeId} (he : P.underlying e = some .bool) (fuel : Nat) (c : List Value) (y : DataW H × List MemPlace) (h : DataW.trod enc P W base sp held fuel e c = some y) : ∃ z, c = [.bool z] := by
  obtain ⟨z, hz, _⟩ := DataW.trod_bool he h; exact ⟨z, hz⟩
theorem trod_trays {t a e : TypeId} {v : Value} {fuel : Nat} {x : DataW H × List MemPlace} (ht : P.underlying t = some (.slice a)) (ha : P.underlying a = some (.array 5 e)) (he : P.underlying e = some (.int .i64)) (hc : P.cellsOf e = 1) (hca : P.cellsOf a = 5)
    (h : DataW.trod enc P W base sp held fuel t [v] = some x) : ∃ n T, IsTrays (Heap.ofWorld W) v n T := by
  obtain ⟨n, f, n', hsl, hy⟩ := trod_rows ht hca (by omega) h
  have key : ∀ i, ∃ g : Nat → Int, i < n → row 5 (f i) = row 5 fun j => .int .i64 (g j) := fun i => by
    by_cases hi : i < n
    · obtain ⟨y, hy⟩ := hy i hi
      obtain ⟨g, hg⟩ := trod_arr5 (mk := Value.int .i64) 0 ha hc hca (fun fu c y h => one_int he fu c y h) hy
      exact ⟨g, fun _ => hg⟩
    · exact ⟨fun _ => 0, fun h => absurd h hi⟩
  refine ⟨n, fun i => (key i).choose, ?_⟩
  have e1 : rows n 5 f = rows n 5 (icell fun i => (key i).choose) := rows_congr fun i j hi hj => by
    have h1 := congrArg (fun l => l[j]?) ((key i).choose_spec hi)
    simp only [row_get hj, Option.some.injEq] at h1
    exact h1
  unfold IsTrays
  rw [← e1]; exact hsl
theorem open_tray {a e : TypeId} {v : Value} {d : DataW H} {ps : List MemPlace} {r : Reach} {b0 : Nat} (ha : P.underlying a = some (.array 5 e)) (he : P.underlying e = some (.int .i64)) (hc : P.cellsOf e = 1) (hca : P.cellsOf a = 5)
    (hv : Value.okWide P W r b0 a v) (h : DataW.Trod enc P W base sp held a v d ps) : ∃ g : Nat → Int, v = .agg (trayL g).toArray := by
  have hv' : ∃ cs, v = .agg cs := by
    simp only [Value.okWide, ha] at hv
    obtain ⟨cs, h1, _⟩ := hv; exact ⟨cs, h1⟩
  obtain ⟨cs, rfl⟩ := hv'
  obtain ⟨fuel, hf⟩ := h
  obtain ⟨g, hg⟩ := trod_arr5 (mk := Value.int .i64) 0 ha hc hca (fun fu c y h => one_int he fu c y h) hf
  refine ⟨g, ?_⟩
  have : cs = (trayL g).toArray := by
    apply Array.toList_inj.1
    simpa [Value.cells] using hg
  rw [this]
theorem open_trays {t a e : TypeId} {v : Value} {d : DataW H} {ps : List MemPlace} {r : Reach} {b0 : Nat} (ht : P.underlying t = some (.slice a)) (ha : P.underlying a = some (.array 5 e)) (he : P.underlying e = some (.int .i64)) (hc : P.cellsOf e = 1) (hca : P.cellsOf a = 5)
    (hv : Value.okWide P W r b0 t v) (h : DataW.Trod enc P W base sp held t v d ps) : ∃ n T, IsTrays (Heap.ofWorld W) v n T := by
  obtain ⟨ad, len, cap, rfl⟩ := okWide_slice ht hv
  obtain ⟨fuel, hf⟩ := h
  exact trod_trays ht ha he hc hca (by simpa [Value.cells] using hf)
theorem open_list {t e : TypeId} {v : Value} {d : DataW H} {ps : List MemPlace} {r : Reach} {b0 : Nat} (ht : P.underlying t = some (.slice e)) (he : P.underlying e = some (.int .i64)) (hc : P.cellsOf e = 1)
    (hv : Value.okWide P W r b0 t v) (h : DataW.Trod enc P W base sp held t v d ps) : ∃ l, IsInts (Heap.ofWorld W) v l := by
  obtain ⟨ad, len, cap, rfl⟩ := okWide_slice ht hv
  obtain ⟨fuel, hf⟩ := h
  exact trod_ints ht he hc (by simpa [Value.cells] using hf)
end
section
variable {H : Type} {enc : TypeId × Value → H} {W : World} {base : Nat} {sp : Nat → Bool} {held : Bool}
theorem trod_hand {fuel : Nat} {cs : List Value} {x : DataW H × List MemPlace} (h : DataW.trod enc Try.prog W base sp held fuel 41 cs = some x) : ∃ (D : HandD) (r : Value), cs = handL D r ∧ IsInts (Heap.ofWorld W) r D.rests := by
  obtain ⟨xs, n, _, _, hl, hlen, hf⟩ := DataW.trod_struct Try.underlying41 h
  rw [show Try.prog.cellsOf 41 = 9 by kernel_rfl] at hl
  have hs : xs.length = 5 := hlen
  have f0 : DataW.trod enc Try.prog W base sp held n 39 ((cs.drop 0).take (Try.prog.cellsOf 39)) = xs[0]? := hf 0 _ rfl
  rw [show Try.prog.cellsOf 39 = 5 by kernel_rfl, List.getElem?_eq_getElem (by omega)] at f0
  have f1 : DataW.trod enc Try.prog W base sp held n 3 ((cs.drop 5).take (Try.prog.cellsOf 3)) = xs[1]? := hf 1 _ rfl
  rw [show Try.prog.cellsOf 3 = 1 by kernel_rfl, List.getElem?_eq_getElem (by omega)] at f1
  have f2 : DataW.trod enc Try.prog W base sp held n 3 ((cs.drop 6).take (Try.prog.cellsOf 3)) = xs[2]? := hf 2 _ rfl
  rw [show Try.prog.cellsOf 3 = 1 by kernel_rfl, List.getElem?_eq_getElem (by omega)] at f2
  have f3 : DataW.trod enc Try.prog W base sp held n 3 ((cs.drop 7).take (Try.prog.cellsOf 3)) = xs[3]? := hf 3 _ rfl
  rw [show Try.prog.cellsOf 3 = 1 by kernel_rfl, List.getElem?_eq_getElem (by omega)] at f3
  have f4 : DataW.trod enc Try.prog W base sp held n 33 ((cs.drop 8).take (Try.prog.cellsOf 33)) = xs[4]? := hf 4 _ rfl
  rw [show Try.prog.cellsOf 33 = 1 by kernel_rfl, List.getElem?_eq_getElem (by omega)] at f4
  obtain ⟨g, hg⟩ := trod_arr5 (mk := Value.bool) false Try.underlying39 (by kernel_rfl) (by kernel_rfl) (fun fu c y h => one_bool Try.underlying4 fu c y h) f0
  obtain ⟨z1, h1⟩ := one_int Try.underlying3 _ _ _ f1
  obtain ⟨z2, h2⟩ := one_int Try.underlying3 _ _ _ f2
  obtain ⟨z3, h3⟩ := one_int Try.underlying3 _ _ _ f3
  obtain ⟨r, hr⟩ : ∃ r, cs[8]? = some r := ⟨cs[8]'(by omega), by simp⟩
  have e4 : (cs.drop 8).take 1 = [r] := by
    apply List.ext_getElem?
    intro j
    rw [List.getElem?_take, List.getElem?_drop]
    by_cases hj : j < 1
    · rw [if_pos hj, show j = 0 by omega]; simpa using hr
    · rw [if_neg hj, List.getElem?_eq_none (by simp; omega)]
  rw [e4] at f4
  obtain ⟨l, hll⟩ := trod_ints Try.underlying33 Try.underlying3 (by kernel_rfl) f4
  refine ⟨⟨g, z1, z2, z3, l⟩, r, ?_, hll⟩
  have at1 : ∀ (k : Nat) (v : Value), (cs.drop k).take 1 = [v] → cs[k]? = some v := fun k v h => by
    have := congrArg (fun l => l[0]?) h
    simpa [List.getElem?_take, List.getElem?_drop] using this
  apply List.ext_getElem?
  intro j
  by_cases hj : j < 9
  · rw [row_get hj]
    unfold hcell
    by_cases h5 : j < 5
    · rw [if_pos h5]
      have := congrArg (fun l => l[j]?) hg
      simp only [row_get h5] at this
      rw [← this, List.getElem?_take, if_pos h5, List.getElem?_drop, Nat.zero_add]
    · rw [if_neg h5]
      have : j = 5 ∨ j = 6 ∨ j = 7 ∨ j = 8 := by omega
      rcases this with rfl | rfl | rfl | rfl
      · exact at1 5 _ h1
      · exact at1 6 _ h2
      · exact at1 7 _ h3
      · exact hr
  · rw [List.getElem?_eq_none (by omega), List.getElem?_eq_none (by rw [row_length]; omega)]
theorem open_belt {v : Value} {d : DataW H} {ps : List MemPlace} {r : Reach} {b0 : Nat} (hv : Value.okWide Try.prog W r b0 26 v) (h : DataW.Trod enc Try.prog W base sp held 26 v d ps) : ∃ b, IsBelt (Heap.ofWorld W) v b := by
  obtain ⟨cs, rfl, hsz⟩ := okWide_struct Try.underlying26 hv
  rw [show Try.prog.cellsOf 26 = 2 by kernel_rfl] at hsz
  obtain ⟨c, dd, rfl⟩ : ∃ c dd, cs = #[c, dd] := by
    obtain ⟨l⟩ := cs
    match l, hsz with
    | [c, dd], _ => exact ⟨c, dd, rfl⟩
  obtain ⟨fuel, hf⟩ := h
  obtain ⟨xs, n, _, _, hl, hlen, hff⟩ := DataW.trod_struct Try.underlying26 hf
  have hs : xs.length = 2 := hlen
  have f0 : DataW.trod enc Try.prog W base sp held n 23 (([c, dd].drop 0).take (Try.prog.cellsOf 23)) = xs[0]? := hff 0 _ rfl
  have f1 : DataW.trod enc Try.prog W base sp held n 24 (([c, dd].drop 1).take (Try.prog.cellsOf 24)) = xs[1]? := hff 1 _ rfl
  rw [show Try.prog.cellsOf 23 = 1 by kernel_rfl, List.getElem?_eq_getElem (by omega), show ([c, dd].drop 0).take 1 = [c] from rfl] at f0
  rw [show Try.prog.cellsOf 24 = 1 by kernel_rfl, List.getElem?_eq_getElem (by omega), show ([c, dd].drop 1).take 1 = [dd] from rfl] at f1
  obtain ⟨nt, T, hT⟩ := trod_trays Try.underlying23 Try.underlying31 Try.underlying3 (by kernel_rfl) (by kernel_rfl) f0
  obtain ⟨nh, f, n', hsl, hy⟩ := trod_rows Try.underlying24 (show Try.prog.cellsOf 41 = 9 by kernel_rfl) (by omega) f1
  have key : ∀ i, ∃ q : HandD × Value, i < nh → row 9 (f i) = handL q.1 q.2 ∧ IsInts (Heap.ofWorld W) q.2 q.1.rests := fun i => by
    by_cases hi : i < nh
    · obtain ⟨y, hy⟩ := hy i hi
      obtain ⟨D, r, h1, h2⟩ := trod_hand hy
      exact ⟨(D, r), fun _ => ⟨h1, h2⟩⟩
    · exact ⟨(⟨fun _ => false, 0, 0, 0, []⟩, .bool true), fun h => absurd h hi⟩
  refine ⟨⟨nt, T, nh, fun i => (key i).choose.1⟩, _, _, rfl, hT, fun i => (key i).choose.2, ?_, fun i hi => ((key i).choose_spec hi).2⟩
  have e2 : rows nh 9 f = rows nh 9 fun i => hcell (key i).choose.1 (key i).choose.2 := rows_congr fun i j hi hj => by
    have h1 := congrArg (fun l => l[j]?) ((key i).choose_spec hi).1
    simp only [row_get hj, Option.some.injEq] at h1
    exact h1
  show SlH _ 9 dd nh (rows nh 9 fun i => hcell (key i).choose.1 (key i).choose.2)
  rw [← e2]; exact hsl
end
end Go.Sx

/- More pieces, stronger hands: plain. -/
namespace Go.Sx

def cutB (b : BeltD) (t s : Nat) : Int := behL b.nh (takesB b) (forceB b t) (allH b) s + exS s (b.tray t)
theorem tray_cast {b : BeltD} (hk : BOK b) {t : Nat} (ht : t < b.nt) (s : Nat) : exS s (fun m => (((wholeD (b.tray t) m).toNat : Nat) : Int)) = exS s (b.tray t) := by
  unfold exS
  refine sumN_congr fun m hm => ?_
  have := hk.tr t m ht hm
  split
  · rfl
  · show ((((b.tray t) m).toNat : Nat) : Int) = b.tray t m; omega
theorem force_nn {b : BeltD} (hk : BOK b) (t i : Nat) (hi : i < b.nh) : 0 ≤ forceB b t i := (forceD_bound (hk.ok i hi) t).1
/-- The most of a tray is no more than what any set bounds, and it is what one set bounds. -/
theorem most_le {b : BeltD} (hk : BOK b) {t : Nat} (ht : t < b.nt) (s : Nat) : mostT b t ≤ cutB b t s := by
  have := total_le (takes := takesB b) hk.h5 (allH_lt b) (force_nn hk t) (fun m => (wholeD (b.tray t) m).toNat) s
  rw [tray_cast hk ht] at this
  exact this
theorem most_eq {b : BeltD} (hk : BOK b) {t : Nat} (ht : t < b.nt) : mostT b t = cutB b t (heldB b wholeD t (allH b)) := by
  have := total_eq (takes := takesB b) hk.h5 (allH_lt b) (force_nn hk t) (fun m => (wholeD (b.tray t) m).toNat)
  rw [tray_cast hk ht] at this
  exact this
theorem mostT_mono {b o : BeltD} (hb : BOK b) (ho : BOK o) {t : Nat} (h1 : t < b.nt) (h2 : t < o.nt) {D : Int} (h : ∀ s, cutB b t s ≤ cutB o t s + D) : mostT b t ≤ mostT o t + D := by
  have a := most_le hb h1 (heldB o wholeD t (allH o))
  have c := most_eq ho h2
  have := h (heldB o wholeD t (allH o))
  omega
theorem mostA_mono {b o : BeltD} (hb : BOK b) (ho : BOK o) (hn : o.nt = b.nt) (h : ∀ t, t < b.nt → ∀ s, cutB b t s ≤ cutB o t s) : mostA b ≤ mostA o := by
  unfold mostA
  rw [hn]
  refine sumN_le fun t ht => ?_
  have := mostT_mono hb ho ht (by omega) (D := 0) fun s => by have := h t ht s; omega
  omega

theorem forceN_mono {H K : HandD} (hr : K.rests = H.rests) (hs : H.str ≤ K.str) (ht : K.tire ≤ H.tire) (h0 : 0 ≤ K.tire) : ∀ k, (forceN H k).2 = (forceN K k).2 ∧ 0 ≤ (forceN K k).2 ∧ (forceN H k).1 ≤ (forceN K k).1
  | 0 => by simp [forceN]
  | k + 1 => by
    obtain ⟨e, p, l⟩ := forceN_mono hr hs ht h0 k
    rw [forceN_succ, forceN_succ]
    unfold forceS
    rw [hr]
    split
    · simp
    · refine ⟨by simp only; omega, by simp only; omega, ?_⟩
      simp only
      rw [e]
      have : K.tire * (forceN K k).2 ≤ H.tire * (forceN K k).2 := Int.mul_le_mul_of_nonneg_right ht p
      omega
theorem forceD_mono {H K : HandD} (hr : K.rests = H.rests) (hs : H.str ≤ K.str) (ht : K.tire ≤ H.tire) (h0 : 0 ≤ K.tire) (t : Nat) : forceD H t ≤ forceD K t := (forceN_mono hr hs ht h0 (t + 1)).2.2
theorem anyT_mono {a c : Nat → Bool} (h : ∀ m, m < 5 → a m = true → c m = true) {s : Nat} (hs : anyT a s = true) : anyT c s = true := by
  obtain ⟨m, h1, h2, h3⟩ := anyT_iff.1 hs
  exact anyT_iff.2 ⟨m, h1, h2, h m h1 h3⟩
/-- It takes no less, and keeps clean what was clean. -/
structure Better (b o : BeltD) (left : Nat → Int) : Prop where
  ok : BOK o
  most : mostA b ≤ mostA o
  clean : cleanB b (keptD left) (allH b) = true → cleanB o (keptD left) (allH o) = true
def farB (b : BeltD) (x : HandD) : BeltD := ⟨b.nt, b.tray, b.nh + 1, fun i => if i = b.nh then x else b.hand i⟩
def setB (b : BeltD) (k : Nat) (x : HandD) : BeltD := ⟨b.nt, b.tray, b.nh, fun i => if i = k then x else b.hand i⟩
structure OKX (nt : Nat) (x : HandD) : Prop where
  ok : OKH x
  sl : 0 ≤ x.slip ∧ x.slip ≤ 100
  re : ∀ j, j < x.rests.length → 0 ≤ x.rests.getD j 0 ∧ x.rests.getD j 0 < nt
  ri : risesD x.rests = true
theorem BOK.okx {b : BeltD} (hk : BOK b) {i : Nat} (hi : i < b.nh) : OKX b.nt (b.hand i) := ⟨hk.ok i hi, hk.sl i hi, hk.re i hi, hk.ri i hi⟩
theorem farB_ok {b : BeltD} (hk : BOK b) (h4 : b.nh ≤ 4) {x : HandD} (hx : OKX b.nt x) : BOK (farB b x) := by
  have key : ∀ i, i < b.nh + 1 → OKX b.nt ((farB b x).hand i) := fun i hi => by
    show OKX b.nt (if i = b.nh then x else b.hand i)
    split
    · exact hx
    · exact hk.okx (by omega)
  exact ⟨hk.n1, hk.n8, by show b.nh + 1 ≤ 5; omega, hk.tr, fun i hi => (key i hi).ok, fun i hi => (key i hi).sl, fun i hi => (key i hi).re, fun i hi => (key i hi).ri⟩
theorem setB_ok {b : BeltD} (hk : BOK b) {k : Nat} {x : HandD} (hx : OKX b.nt x) : BOK (setB b k x) := by
  have key : ∀ i, i < b.nh → OKX b.nt ((setB b k x).hand i) := fun i hi => by
    show OKX b.nt (if i = k then x else b.hand i)
    split
    · exact hx
    · exact hk.okx (by omega)
  exact ⟨hk.n1, hk.n8, hk.h5, hk.tr, fun i hi => (key i hi).ok, fun i hi => (key i hi).sl, fun i hi => (key i hi).re, fun i hi => (key i hi).ri⟩
/-! ### More pieces -/
def addT (b : BeltD) (a : Nat → Nat → Int) : BeltD := ⟨b.nt, fun i m => b.tray i m + a i m, b.nh, b.hand⟩
def sumA (n : Nat) (a : Nat → Nat → Int) : Int := sumN n fun i => sum5 (a i)
theorem most_more {b : BeltD} {a : Nat → Nat → Int} (hb : BOK b) (ho : BOK (addT b a)) (ha : ∀ i m, i < b.nt → m < 5 → 0 ≤ a i m) : mostA b ≤ mostA (addT b a) ∧ mostA (addT b a) ≤ mostA b + sumA b.nt a := by
  have hcut : ∀ t, t < b.nt → ∀ s, cutB (addT b a) t s = cutB b t s + exS s (a t) := fun t _ s => by
    unfold cutB
    have : exS s ((addT b a).tray t) = exS s (b.tray t) + exS s (a t) := by
      unfold exS
      rw [← sumN_add]
      refine sumN_congr fun m _ => ?_
      split
      · rfl
      · rfl
    rw [this]
    show behL b.nh (takesB b) (forceB b t) (allH b) s + _ = _
    omega
  have hex : ∀ t, t < b.nt → ∀ s, 0 ≤ exS s (a t) ∧ exS s (a t) ≤ sum5 (a t) := fun t ht s => by
    constructor
    · refine sumN_nn fun m hm => ?_
      have := ha t m ht hm
      show 0 ≤ (if s.testBit m = true then 0 else a t m)
      split <;> omega
    · refine sumN_le fun m hm => ?_
      have := ha t m ht hm
      show (if s.testBit m = true then 0 else a t m) ≤ a t m
      split <;> omega
  constructor
  · refine mostA_mono hb ho rfl fun t ht s => ?_
    have := hex t ht s
    rw [hcut t ht s]; omega
  · unfold mostA sumA
    rw [← sumN_add]
    show sumN b.nt _ ≤ _
    refine sumN_le fun t ht => ?_
    refine mostT_mono ho hb ht ht fun s => ?_
    have := hex t ht s
    rw [hcut t ht s]; omega
end Go.Sx

/- The law BeltEnough: the walk. -/
namespace Go.Sx
open Go.Proofs
set_option maxRecDepth 100000
section
variable {P : Program} {n : Nat} {ρ : Env} {h : Heap} {Γ : List HP} {d : Option Nat} {ty : TypeId} {pos : String} {af : Array Edge} {gd : Option (Nat × Bool)} {x y : Operand} {t t' : TypeId} {a b : Bool}
theorem opT_neB [hT : Ty P t .bool] (hx : ρ.ev x = some (.bool a)) (hy : ρ.ev y = some (.bool b)) : OpT P n ⟨d, .binOp .neq t x y t', ty, pos, af, gd⟩ ρ h Γ (Det (.bool (a != b)) h Γ) :=
  opT_pure (by simp) fun act en w => by
    have h0 : (eqGuard .neq t x y (.bool a) (.bool b)).run P w = .ok () w := by
      unfold eqGuard; simp [Sem.run, pure]
    have h1 : (Op.equal t (.bool a) (.bool b)).run P w = .ok (a == b) w := by
      unfold Op.equal Op.maxDepth
      exact run_equalIn_bool' w 9999 t a b hT.und
    have h2 : (binOp .neq t (.bool a) (.bool b)).run P w = .ok (.bool (a != b)) w := by
      simp only [binOp, Sem.run_bind, h1, Result.andThen_ok]; rfl
    simp only [execOp, en.ev hx, en.ev hy, Sem.run_bind, h0, h2, Result.andThen_ok, Sem.run, pure]
end
attribute [local irreducible] Code.wpIn wpListIn Exit.then Exit.inBlock BQ Again Hd St En OpT box blk RQ BQ0 fmap own Desk Chute
end Go.Sx

/- The law BeltMore: the walk, its first half. -/
namespace Go.Sx
open Go.Proofs
set_option maxRecDepth 100000
section
variable {n : Nat} {Φ : Fr} {Tt : Act → World → Prop} {ρ : Env} {h : Heap} {Γ : List HP}
/-- The array behind an owned slice, what it has beyond included; and back. -/
theorem en_own_box {T : TypeId} {sz m cp : Nat} {ad : Option Addr} {xs : List Value} (hm : 0 < m)
    (H : ∀ b tail, ad = some ⟨b, 0, none⟩ → (xs ++ tail).length = cp * sz → xs.length = m * sz → En n Φ Tt ρ h (box b T (xs ++ tail) :: Γ)) : En n Φ Tt ρ h (own T sz (.slice ad m cp) m xs :: Γ) :=
  en_of_own hm fun b cap cs hv hmc hc hl ht => by
    cases hv
    have hx : xs.length = m * sz := by rw [← ht, List.length_take, hl]; exact Nat.min_eq_left (Nat.mul_le_mul_right _ hmc)
    have e : cs = xs ++ cs.drop (m * sz) := by rw [← ht]; exact (List.take_append_drop _ _).symm
    have := H b (cs.drop (m * sz)) rfl (by rw [← e]; exact hl) hx
    rw [← e] at this; exact this
theorem en_box_own {T : TypeId} {sz m cp b : Nat} {xs tail : List Value} (hm : m ≤ cp) (hc : cp ≤ 9223372036854775807) (hl : (xs ++ tail).length = cp * sz) (hx : xs.length = m * sz)
    (H : En n Φ Tt ρ h (own T sz (.slice (some ⟨b, 0, none⟩) m cp) m xs :: Γ)) : En n Φ Tt ρ h (box b T (xs ++ tail) :: Γ) :=
  en_to_own sz m cp hm hc hl (by rw [← hx, List.take_left]; exact H)
end
theorem app_get {xs tail : List Value} {j : Nat} {v : Value} (h : xs[j]? = some v) : (xs ++ tail)[j]? = some v := by
  rw [List.getElem?_append_left (List.getElem?_eq_some_iff.1 h).1]; exact h
theorem rows_app_set {n w : Nat} {f : Nat → Nat → Value} {tail : List Value} {i j : Nat} (hi : i < n) (hj : j < w) (v : Value) : (rows n w f ++ tail).set (i * w + j) v = rows n w (fun a b => if a = i ∧ b = j then v else f a b) ++ tail := by
  rw [List.set_append_left _ _ (by rw [rows_length]; exact row_lt hi hj), rows_set hj]
theorem mostA_bound {b : BeltD} (hk : BOK b) : 0 ≤ mostA b ∧ mostA b ≤ 1600 := by
  have h := sumN_bound (n := b.nt) (f := mostT b) (B := 200) fun i _ => mostT_bound hk i
  have := hk.n8
  show 0 ≤ sumN b.nt (mostT b) ∧ sumN b.nt (mostT b) ≤ 1600
  have e : (200 : Int) * (b.nt : Int) ≤ 1600 := by omega
  omega
def addTr (b : BeltD) (a : Nat → Nat → Int) : Nat → Nat → Int := fun i m => b.tray i m + a i m
/-- What is added, so far. -/
structure AInv (nt t m : Nat) (a : Nat → Nat → Int) (added : Int) : Prop where
  r : ∀ i j, 0 ≤ a i j ∧ a i j ≤ 3
  z : ∀ i j, (t < i ∨ (i = t ∧ m ≤ j)) → a i j = 0
  s : added = sumA nt a
theorem AInv.start (nt : Nat) : AInv nt 0 0 (fun _ _ => 0) 0 := ⟨fun _ _ => by simp, fun _ _ _ => rfl, by unfold sumA sum5; rw [show (fun i : Nat => sumN 5 fun _ => (0 : Int)) = fun _ => 0 by funext i; exact sumN_zero 5, sumN_zero]⟩
theorem AInv.next {nt t m : Nat} {a : Nat → Nat → Int} {x : Int} (h : AInv nt t m a x) (h5 : 5 ≤ m) : AInv nt (t + 1) 0 a x := ⟨h.r, fun i j hx => h.z i j (by omega), h.s⟩
theorem AInv.add {nt t m : Nat} {a : Nat → Nat → Int} {x k : Int} (h : AInv nt t m a x) (ht : t < nt) (hm : m < 5) (h0 : 0 ≤ k) (h3 : k ≤ 3) : AInv nt t (m + 1) (upd2 a t m k) (x + k) := by
  have hz := h.z t m (.inr ⟨rfl, Nat.le_refl _⟩)
  refine ⟨fun i j => ?_, fun i j hx => ?_, ?_⟩
  · unfold upd2
    split
    · exact ⟨h0, h3⟩
    · exact h.r i j
  · unfold upd2
    split
    · omega
    · exact h.z i j (by omega)
  · rw [h.s]
    unfold sumA
    refine (sumN_upd (f := fun i => sum5 (a i)) (g := fun i => sum5 (upd2 a t m k i)) (i := t) (d := k) ht (fun j _ hj => by show sum5 (upd2 a t m k j) = _; rw [upd2_row_ne hj]) ?_).symm
    show sum5 (upd2 a t m k t) = sum5 (a t) + k
    unfold sum5
    exact sumN_upd hm (fun j _ hj => by simp [upd2, hj]) (by simp [upd2, hz])
theorem addTr_set (b : BeltD) (a : Nat → Nat → Int) (t m : Nat) (k : Int) (hz : a t m = 0) : (fun x y => if x = t ∧ y = m then Value.int .i64 (addTr b a t m + k) else icell (addTr b a) x y) = icell (addTr b (upd2 a t m k)) := by
  funext x y
  unfold icell addTr upd2
  by_cases e : x = t ∧ y = m
  · obtain ⟨rfl, rfl⟩ := e; simp [hz]
  · simp [e]
theorem addT_ok {b : BeltD} {T H : Int} (hM : MadeB b T H) (hT : T ≤ 8) (hH : H ≤ 5) {a : Nat → Nat → Int} (ha : ∀ i j, 0 ≤ a i j ∧ a i j ≤ 3) : BOK (addT b a) := by
  have hk := hM.ok hT hH
  exact ⟨hk.n1, hk.n8, hk.h5, fun i m hi hm => by have h1 := hM.tr i m hi hm; have h2 := ha i m; show 0 ≤ b.tray i m + a i m ∧ b.tray i m + a i m ≤ 60; omega, hk.ok, hk.sl, hk.re, hk.ri⟩
def tk3 (a c : Bool) : Nat → Bool := fun m => if m = 0 then true else if m = 1 then a else if m = 2 then c else false
def btab (tvs hvs : Nat → Value) : Nat → Nat → Value := fun i j => if j = 0 then tvs i else hvs i
def BeltsP (b : BeltD) (left : Nat → Int) (h : Heap) (k : Nat) (tvs hvs : Nat → Value) : Prop := ∀ i, i < k → ∃ o, IsBelt h (.agg #[tvs i, hvs i]) o ∧ Better b o left
theorem BeltsP.mono {b : BeltD} {left : Nat → Int} {h h' : Heap} (s : h.sub h') {k : Nat} {tvs hvs : Nat → Value} (x : BeltsP b left h k tvs hvs) : BeltsP b left h' k tvs hvs := fun i hi => by
  obtain ⟨o, a, c⟩ := x i hi; exact ⟨o, a.mono s, c⟩
theorem belts_snoc (k : Nat) (tvs hvs : Nat → Value) (tv hv : Value) : rows k 2 (btab tvs hvs) ++ [tv, hv] = rows (k + 1) 2 (btab (fun i => if i = k then tv else tvs i) (fun i => if i = k then hv else hvs i)) := by
  rw [rows_succ]
  congr 1
  · refine rows_congr fun i j hi _ => ?_
    have : i ≠ k := by omega
    simp [btab, this]
  · show [tv, hv] = row 2 _
    simp [row, btab, List.range_succ]
theorem BeltsP.snoc {b : BeltD} {left : Nat → Int} {h : Heap} {k : Nat} {tvs hvs : Nat → Value} (x : BeltsP b left h k tvs hvs) {tv hv : Value} {o : BeltD} (ho : IsBelt h (.agg #[tv, hv]) o) (hb : Better b o left) : BeltsP b left h (k + 1) (fun i => if i = k then tv else tvs i) (fun i => if i = k then hv else hvs i) := fun i hi => by
  by_cases e : i = k
  · subst e; simp only [if_true]; exact ⟨o, ho, hb⟩
  · simp only [e, if_false]; exact x i (by omega)
theorem hands_set (H : Nat → HandD) (rv : Nat → Value) (k c : Nat) (v : Value) (x : HandD) (hx : ∀ j, hcell x (rv k) j = if j = c then v else hcell (H k) (rv k) j) : (fun a j => if a = k ∧ j = c then v else hcell (H a) (rv a) j) = fun a => hcell ((fun i => if i = k then x else H i) a) (rv a) := by
  funext a j
  by_cases e : a = k
  · subst e
    simp only [if_true, true_and]
    rw [hx]
  · simp [e]
theorem hcell_str (H : HandD) (r : Value) (s : Int) (j : Nat) : hcell { H with str := s } r j = if j = 5 then .int .i64 s else hcell H r j := by
  unfold hcell
  by_cases e : j = 5
  · subst e; simp
  · simp [e]
theorem hcell_tire (H : HandD) (r : Value) (s : Int) (j : Nat) : hcell { H with tire := s } r j = if j = 6 then .int .i64 s else hcell H r j := by
  unfold hcell
  by_cases e : j = 6
  · subst e; simp
  · simp [e]
theorem hcell_take (H : HandD) (r : Value) (m : Nat) (hm : m < 5) (s : Bool) (j : Nat) : hcell { H with takes := fun c => if c = m then s else H.takes c } r j = if j = m then .bool s else hcell H r j := by
  unfold hcell
  by_cases e : j = m
  · subst e; simp [hm]
  · simp [e]
attribute [local irreducible] Code.wpIn wpListIn Exit.then Exit.inBlock BQ Again Hd St En OpT box blk RQ BQ0 fmap own Desk Chute
end Go.Sx

/- Sets out of numbers, sums of trays. -/
namespace Go.Sx
open Go.Proofs
set_option maxRecDepth 100000
attribute [local irreducible] Code.wpIn wpListIn Exit.then Exit.inBlock BQ Again Hd St En OpT box blk RQ BQ0 fmap own Desk Chute
end Go.Sx

/- What holds up, what is left by the rule: plain. -/
namespace Go.Sx

theorem inS_sumL (s : Nat) (f : Nat → Int) : sumL (setL s) f = inS s f := by
  unfold setL sumL inS
  have r5 : List.range 5 = [0, 1, 2, 3, 4] := rfl
  rw [r5]
  simp only [sumN, List.filter_cons, List.filter_nil]
  cases s.testBit 0 <;> cases s.testBit 1 <;> cases s.testBit 2 <;> cases s.testBit 3 <;> cases s.testBit 4 <;> simp <;> omega
theorem beh_eq (b : BeltD) (t s : Nat) : behindD b.hand b.nh t s = behL b.nh (takesB b) (forceB b t) (allH b) s := by
  show _ = behL b.nh _ _ (List.range b.nh) s
  rw [behL_all]; rfl
theorem upN_eq (b : BeltD) (left : Nat → Int) (t s : Nat) : upN b left t s = inS s (keptD left (b.tray t)) - behL b.nh (takesB b) (forceB b t) (allH b) s := by
  unfold upN; rw [inS_sumL, beh_eq]
theorem bits_set : ∀ s : Fin 32, bitsOf (setI s) = s ∧ chosenE (setI s) = 0 := by decide +kernel
theorem kept_nn (left t : Nat → Int) (m : Nat) : 0 ≤ keptD left t m := by unfold keptD; omega
theorem kept_cast (left t : Nat → Int) : (fun m => (((keptD left t m).toNat : Nat) : Int)) = keptD left t := by
  funext m; unfold keptD; omega
theorem dirty_iff {b : BeltD} (hk : BOK b) {left : Nat → Int} {hands : List Nat} (hlt : ∀ x ∈ hands, x < b.nh) (t : Nat) :
    dirtyB b (keptD left) hands t = false ↔ ∀ s, inS s (keptD left (b.tray t)) ≤ behL b.nh (takesB b) (forceB b t) hands s := by
  have h1 : dirtyB b (keptD left) hands t = false ↔ ∀ m, m < 5 → (shB b (keptD left) t hands).2 m = 0 := by
    unfold dirtyB
    rw [Bool.not_eq_false', allI_iff]
    simp
  have h2 := left_none (takes := takesB b) hk.h5 hlt (force_nn hk t) (fun m => (keptD left (b.tray t) m).toNat)
  rw [kept_cast] at h2
  rw [h1]; exact h2
theorem first_spec {b : BeltD} {want : (Nat → Int) → Nat → Int} {hands : List Nat} (h : firstB b want hands < b.nt) : dirtyB b want hands (firstB b want hands) = true ∧ ∀ i, i < firstB b want hands → dirtyB b want hands i = false := by
  unfold firstB at h ⊢
  cases hf : (List.range b.nt).find? (dirtyB b want hands) with
  | none => rw [hf] at h; simp at h
  | some k =>
    rw [List.find?_eq_some_iff_getElem] at hf
    obtain ⟨h1, i, hi, h2, h3⟩ := hf
    simp only [List.getElem_range] at h2
    subst h2
    refine ⟨h1, fun j hj => ?_⟩
    have := h3 j hj
    simpa using this
theorem first_all {b : BeltD} {want : (Nat → Int) → Nat → Int} {hands : List Nat} (h : firstB b want hands = b.nt) : ∀ i, i < b.nt → dirtyB b want hands i = false := by
  intro i hi
  unfold firstB at h
  cases hf : (List.range b.nt).find? (dirtyB b want hands) with
  | none =>
    simp only [List.find?_eq_none] at hf
    simpa using hf i (by simpa using hi)
  | some k =>
    rw [hf] at h
    have := List.mem_of_find?_eq_some hf
    simp at this h; omega
/-- The set that is told holds up. -/
theorem held_up {b : BeltD} (hk : BOK b) {left : Nat → Int} (hl : ∀ m, m < 5 → 0 ≤ left m) {t : Nat} (ht : t < b.nt) (hd : dirtyB b (keptD left) (allH b) t = true) :
    1 ≤ upN b left t (heldB b (keptD left) t (allH b)) ∧ upN b left t (heldB b (keptD left) t (allH b)) ≤ sum5 (b.tray t) := by
  rw [upN_eq]
  have h1 := held_by (takes := takesB b) hk.h5 (allH_lt b) (force_nn hk t) (fun m => (keptD left (b.tray t) m).toNat)
  have h2 := left_sum (takes := takesB b) hk.h5 (allH_lt b) (force_nn hk t) (fun m => (keptD left (b.tray t) m).toNat)
  rw [kept_cast] at h1 h2
  have h3 : ∃ m, m < 5 ∧ 0 < (shB b (keptD left) t (allH b)).2 m := by
    unfold dirtyB at hd
    simp only [Bool.not_eq_true'] at hd
    have : ¬ (allI 5 fun m => decide ((shB b (keptD left) t (allH b)).2 m = 0)) = true := by rw [hd]; simp
    rw [allI_iff] at this
    simp only [decide_eq_true_eq, Classical.not_forall] at this
    obtain ⟨m, hm, hne⟩ := this
    exact ⟨m, hm, Nat.pos_of_ne_zero hne⟩
  obtain ⟨m, hm, hp⟩ := h3
  have h4 : ((shB b (keptD left) t (allH b)).2 m : Int) ≤ sum5 (fun m => ((shB b (keptD left) t (allH b)).2 m : Int)) := sumN_one (n := 5) (f := fun m => ((shB b (keptD left) t (allH b)).2 m : Int)) (fun i _ => by omega) hm
  have h5 : 0 ≤ sumN b.nh (fun h => sum5 ((shB b (keptD left) t (allH b)).1 h)) := sumN_nn fun i hi => (row_bound hk (out_ok b hk (keptD left) t (allH b) (allH_lt b)) hi).1
  have h6 : sum5 (keptD left (b.tray t)) ≤ sum5 (b.tray t) := sumN_le fun m hm => by
    have := hl m hm
    have := hk.tr t m ht hm
    unfold keptD; omega
  have e1 : heldD (takesB b) (shareS (takesB b) (forceB b t) (allH b) (fun m => (keptD left (b.tray t) m).toNat) 5).1 (allH b) (shareS (takesB b) (forceB b t) (allH b) (fun m => (keptD left (b.tray t) m).toNat) 5).2 = heldB b (keptD left) t (allH b) := rfl
  have e2 : shareS (takesB b) (forceB b t) (allH b) (fun m => (keptD left (b.tray t) m).toNat) 5 = shB b (keptD left) t (allH b) := rfl
  rw [e1, e2] at h1
  rw [e2] at h2
  omega
theorem clean_more {b : BeltD} (hk : BOK b) {left l' : Nat → Int} (h : ∀ m, m < 5 → left m ≤ l' m) (hc : cleanB b (keptD left) (allH b) = true) : cleanB b (keptD l') (allH b) = true := by
  rw [clean_hall hk (allH_lt b)] at hc ⊢
  intro t ht s
  have h1 := hc t ht s
  have h2 : inS s (keptD l' (b.tray t)) ≤ inS s (keptD left (b.tray t)) := sumN_le fun m hm => by
    have := h m hm
    show (if s.testBit m = true then keptD l' (b.tray t) m else 0) ≤ (if s.testBit m = true then keptD left (b.tray t) m else 0)
    split
    · unfold keptD; omega
    · exact Int.le_refl _
  omega

/-! ### What hands take of a tray by the rule -/
/-- One hand: what it takes of tray t, material by material. -/
structure TakeM (takes : Nat → Bool) (h t k : Nat) (s s' : RS) : Prop where
  f : s.f = s'.f + sumN k (fun m => s.left t m - s'.left t m)
  f0 : 0 ≤ s'.f
  le : ∀ m, s'.left t m ≤ s.left t m
  nn : ∀ m, m < 5 → 0 ≤ s'.left t m
  tk : ∀ m, s'.left t m ≠ s.left t m → m < k ∧ takes m = true
  row : ∀ i, i ≠ t → s'.left i = s.left i
  heap : ∀ i m, s'.heaps i m = s.heaps i m + if i = h then s.left t m - s'.left t m else 0
  spent : ∀ m, m < k → takes m = true → 0 < s'.left t m → s'.f = 0
end Go.Sx

/- What hands take by the rule, tray by tray: plain. -/
namespace Go.Sx

structure RuleX (H : Nat → HandD) (order : List Nat) (t : Nat) (before after : Nat → Int) (x : Nat → Nat → Int) : Prop where
  nn : ∀ h m, 0 ≤ x h m
  le : ∀ h, h ∈ order → sum5 (x h) ≤ forceD (H h) t
  tk : ∀ h m, m < 5 → 0 < x h m → (H h).takes m = true
  out : ∀ h, h ∉ order → ∀ m, x h m = 0
  left : ∀ m, after m = before m - sumL order (fun h => x h m)
  nnl : ∀ m, m < 5 → 0 ≤ after m
  spent : ∀ h, h ∈ order → ∀ m, m < 5 → (H h).takes m = true → 0 < after m → sum5 (x h) = forceD (H h) t

structure RuledX (H : Nat → HandD) (tray : Nat → Nat → Int) (order : List Nat) (k : Nat) (s : (Nat → Nat → Int) × (Nat → Nat → Int)) (X : Nat → Nat → Nat → Int) : Prop where
  each : ∀ t, t < k → RuleX H order t (tray t) (s.1 t) (X t)
  later : ∀ t, k ≤ t → s.1 t = tray t
  heap : ∀ h m, s.2 h m = sumN k fun t => X t h m
end Go.Sx

/- The law BeltClean: the walk. -/
namespace Go.Sx
open Go.Proofs
set_option maxRecDepth 100000
theorem held_cases {b : BeltD} {left : Nat → Int} {v : Value} {h' : Heap} {Γ' : List HP} (hz : keptE b left = 0) (hr : HeldR b left v h' Γ') :
    ∃ (tt : Int) (sv : Value) (e : Int), v = .tuple #[.int .i64 tt, sv, .int .i64 e] ∧ Γ' = [] ∧ ((cleanB b (keptD left) (allH b) = true ∧ firstB b (keptD left) (allH b) = b.nt ∧ tt = 0 ∧ e = 1) ∨
      (cleanB b (keptD left) (allH b) = false ∧ firstB b (keptD left) (allH b) < b.nt ∧ tt = firstB b (keptD left) (allH b) ∧ e = 0 ∧ IsInts h' sv (setI (firstS b (keptD left) (allH b))))) := by
  obtain ⟨rfl, ⟨_, h1, rfl⟩ | ⟨_, h1, sv, rfl, h2⟩ | ⟨h1, _⟩⟩ := hr
  · exact ⟨_, _, _, rfl, rfl, .inl ⟨by unfold cleanB; simp [h1], h1, rfl, rfl⟩⟩
  · exact ⟨_, sv, _, rfl, rfl, .inr ⟨by unfold cleanB; simp; omega, h1, rfl, rfl, h2⟩⟩
  · exact absurd hz h1
def rmax (f : Nat → Nat → Int) : Nat → Nat → Int
  | 0, _ => 0
  | j + 1, m => max (rmax f j m) (f j m)
theorem rmax_ge {f : Nat → Nat → Int} : ∀ {n i : Nat} {m : Nat}, i < n → f i m ≤ rmax f n m
  | 0, i, m, h => by omega
  | n + 1, i, m, h => by
    simp only [rmax]
    by_cases e : i = n
    · subst e; omega
    · have := rmax_ge (f := f) (n := n) (i := i) (m := m) (by omega); omega
theorem rmax_bound {f : Nat → Nat → Int} {B : Int} (hB : 0 ≤ B) : ∀ {n m : Nat}, (∀ i, i < n → f i m ≤ B) → 0 ≤ rmax f n m ∧ rmax f n m ≤ B
  | 0, _, _ => by simp [rmax, hB]
  | n + 1, m, h => by
    have := rmax_bound (f := f) hB (n := n) (m := m) fun i hi => h i (by omega)
    have := h n (by omega)
    simp only [rmax]; omega
def rstep (f : Nat → Nat → Int) (j k : Nat) : Nat → Int := fun m => if m < k then rmax f (j + 1) m else rmax f j m
theorem rstep_five (f : Nat → Nat → Int) (j : Nat) : trayL (rstep f j 5) = trayL (rmax f (j + 1)) := row_congr fun m hm => by simp [rstep, hm]
theorem rstep_next (f : Nat → Nat → Int) (j k : Nat) : (fun m => if m = k then max (rmax f j k) (f j k) else rstep f j k m) = rstep f j (k + 1) := by
  funext m
  unfold rstep
  by_cases e : m = k
  · subst e; simp [rmax]
  · by_cases h : m < k
    · simp [e, h, show m < k + 1 by omega]
    · simp [e, h, show ¬ m < k + 1 by omega]
def addL (l : Nat → Int) (a : Nat → Int) : Nat → Int := fun m => l m + a m
attribute [local irreducible] Code.wpIn wpListIn Exit.then Exit.inBlock BQ Again Hd St En OpT box blk RQ BQ0 fmap own Desk Chute
end Go.Sx

/- Slices of slices; an append within one array; clear. -/
namespace Go.Sx
section
variable {P : Program} {n : Nat} {ρ : Env} {h : Heap} {Γ Δ : List HP} {G : List Value → List HP} {d : Option Nat} {ty : TypeId} {pos : String} {af : Array Edge} {gd : Option (Nat × Bool)} {x y lo hi mx : Operand} {T e : TypeId} {zs cs : List Value} {sz by_ : Nat}
theorem run_bound {w : World} {k : IntKind} {i : Int} {y : Nat} {c : BoundsCode} (h0 : 0 ≤ i) (h1 : i ≤ y) : (Instr.sliceBound (.int k i) y c).run P w = .ok i.toNat w := by
  simp [Instr.sliceBound, asIntOf, Sem.run, pure, bind, Sem.bind, h0, h1]
/-- 's[l:h:m]', whatever it is. -/
theorem opT_sl3 {ad : Option Addr} {len cap : Nat} {l r m : Int} {k1 k2 k3 : IntKind} [hT : Ty P T (.slice e)] [hI : Info P e zs sz by_] (hx : ρ.ev x = some (.slice ad len cap)) (hl : ρ.ev lo = some (.int k1 l)) (hr : ρ.ev hi = some (.int k2 r)) (hm : ρ.ev mx = some (.int k3 m)) (h0 : 0 ≤ l) (h1 : l ≤ r) (h2 : r ≤ m) (h3 : m ≤ cap) :
    OpT P n ⟨d, .slice T x (some lo) (some hi) (some mx), ty, pos, af, gd⟩ ρ h Γ (Det (.slice (if m.toNat = l.toNat then ad else ad.map (·.add (l.toNat * sz))) (r.toNat - l.toNat) (m.toNat - l.toNat)) h Γ) :=
  opT_pure (by simp) fun a en w => by
    have b1 := run_bound (P := P) (w := w) (k := k3) (i := m) (y := cap) (c := .slice3Acap) (by omega) h3
    have b2 := run_bound (P := P) (w := w) (k := k2) (i := r) (y := m.toNat) (c := .slice3B) (by omega) (by omega)
    have b3 := run_bound (P := P) (w := w) (k := k1) (i := l) (y := r.toNat) (c := .slice3C) h0 (by omega)
    simp [execOp, en.ev hx, en.ev hl, en.ev hr, en.ev hm, Instr.sliceAt, Instr.slice, run_und hT.und, Instr.sliceBounds, b1, b2, b3, run_size hI, Sem.run, pure]
/-- 's[:h]' -/
theorem opT_slH {b off len cap : Nat} {r : Int} {k : IntKind} [hT : Ty P T (.slice e)] [hI : Info P e zs sz by_] (hx : ρ.ev x = some (.slice (some ⟨b, off, none⟩) len cap)) (hr : ρ.ev hi = some (.int k r)) (h0 : 0 ≤ r) (h1 : r ≤ cap) :
    OpT P n ⟨d, .slice T x none (some hi) none, ty, pos, af, gd⟩ ρ h Γ (Det (.slice (some ⟨b, off, none⟩) r.toNat cap) h Γ) :=
  opT_pure (by simp) fun a en w => by
    have b2 := run_bound (P := P) (w := w) (k := k) (i := r) (y := cap) (c := .sliceAcap) h0 h1
    simp [execOp, en.ev hx, en.ev hr, Instr.sliceAt, Instr.slice, run_und hT.und, Instr.sliceBounds, b2, run_size hI, addr_add, Sem.run, pure]
/-- 's[l:]' -/
theorem opT_slL {b off len cap : Nat} {l : Int} {k : IntKind} [hT : Ty P T (.slice e)] [hI : Info P e zs sz by_] (hx : ρ.ev x = some (.slice (some ⟨b, off, none⟩) len cap)) (hl : ρ.ev lo = some (.int k l)) (h0 : 0 ≤ l) (h1 : l ≤ len) :
    OpT P n ⟨d, .slice T x (some lo) none none, ty, pos, af, gd⟩ ρ h Γ (Det (.slice (if cap = l.toNat then some ⟨b, off, none⟩ else some ⟨b, off + l.toNat * sz, none⟩) (len - l.toNat) (cap - l.toNat)) h Γ) :=
  opT_pure (by simp) fun a en w => by
    have b2 := run_bound (P := P) (w := w) (k := k) (i := l) (y := len) (c := .sliceB) h0 h1
    simp [execOp, en.ev hx, en.ev hl, Instr.sliceAt, Instr.slice, run_und hT.und, Instr.sliceBounds, b2, run_size hI, addr_add, Sem.run, pure]
/-- 's[l:h]' -/
theorem opT_slLH {b off len cap : Nat} {l r : Int} {k1 k2 : IntKind} [hT : Ty P T (.slice e)] [hI : Info P e zs sz by_] (hx : ρ.ev x = some (.slice (some ⟨b, off, none⟩) len cap)) (hl : ρ.ev lo = some (.int k1 l)) (hr : ρ.ev hi = some (.int k2 r)) (h0 : 0 ≤ l) (h1 : l ≤ r) (h2 : r ≤ cap) :
    OpT P n ⟨d, .slice T x (some lo) (some hi) none, ty, pos, af, gd⟩ ρ h Γ (Det (.slice (if cap = l.toNat then some ⟨b, off, none⟩ else some ⟨b, off + l.toNat * sz, none⟩) (r.toNat - l.toNat) (cap - l.toNat)) h Γ) :=
  opT_pure (by simp) fun a en w => by
    have b1 := run_bound (P := P) (w := w) (k := k2) (i := r) (y := cap) (c := .sliceAcap) (by omega) h2
    have b2 := run_bound (P := P) (w := w) (k := k1) (i := l) (y := r.toNat) (c := .sliceB) h0 (by omega)
    simp [execOp, en.ev hx, en.ev hl, en.ev hr, Instr.sliceAt, Instr.slice, run_und hT.und, Instr.sliceBounds, b1, b2, run_size hI, addr_add, Sem.run, pure]
end
theorem rows_split (p q w : Nat) (f : Nat → Nat → Value) : rows (p + q) w f = rows p w f ++ rows q w (fun a => f (a + p)) := by
  induction q with
  | zero => simp [rows_zero]
  | succ q ih =>
    rw [show p + (q + 1) = (p + q) + 1 by omega, rows_succ, ih, rows_succ, List.append_assoc]
    rw [show q + p = p + q by omega]
end Go.Sx

/- A belt without a hand: plain. -/
namespace Go.Sx
def skip (i a : Nat) : Nat := if a < i then a else a + 1
def delB (b : BeltD) (i : Nat) : BeltD := ⟨b.nt, b.tray, b.nh - 1, fun a => b.hand (skip i a)⟩
theorem skip_lt {i a n : Nat} (hi : i < n) (ha : a < n - 1) : skip i a < n := by unfold skip; split <;> omega
theorem skip_ne (i a : Nat) : skip i a ≠ i := by unfold skip; split <;> omega
theorem delB_ok {b : BeltD} (hk : BOK b) {i : Nat} (hi : i < b.nh) : BOK (delB b i) :=
  ⟨hk.n1, hk.n8, by show b.nh - 1 ≤ 5; have := hk.h5; omega, hk.tr, fun a ha => hk.ok _ (skip_lt hi ha), fun a ha => hk.sl _ (skip_lt hi ha), fun a ha => hk.re _ (skip_lt hi ha), fun a ha => hk.ri _ (skip_lt hi ha)⟩
theorem sumN_skip {n i : Nat} (hi : i < n) (f : Nat → Int) : sumN n f = sumN (n - 1) (fun a => f (skip i a)) + f i := by
  induction n with
  | zero => omega
  | succ n ih =>
    by_cases e : i = n
    · subst e
      simp only [sumN, Nat.add_sub_cancel]
      congr 1
      exact sumN_congr fun a ha => by unfold skip; rw [if_pos ha]
    · have h1 := ih (by omega)
      obtain ⟨m, rfl⟩ : ∃ m, n = m + 1 := ⟨n - 1, by omega⟩
      simp only [sumN, Nat.add_sub_cancel] at h1 ⊢
      rw [h1]
      have : skip i m = m + 1 := by unfold skip; rw [if_neg (by omega)]
      rw [this]; omega
def hitF (b : BeltD) (t s i : Nat) : Int := if anyT (takesB b i) s = true then forceB b t i else 0
theorem beh_sum (b : BeltD) (t s : Nat) : behL b.nh (takesB b) (forceB b t) (allH b) s = sumN b.nh (hitF b t s) := by
  show behL b.nh _ _ (List.range b.nh) s = _
  rw [behL_all]; rfl
theorem cut_del {b : BeltD} {i : Nat} (hi : i < b.nh) (t s : Nat) : cutB b t s = cutB (delB b i) t s + hitF b t s i := by
  unfold cutB
  rw [beh_sum, beh_sum, sumN_skip hi]
  show sumN (b.nh - 1) (fun a => hitF b t s (skip i a)) + hitF b t s i + exS s (b.tray t) = sumN (b.nh - 1) (fun a => hitF b t s (skip i a)) + exS s (b.tray t) + hitF b t s i
  omega
theorem hitF_rng {b : BeltD} (hk : BOK b) {i : Nat} (hi : i < b.nh) (t s : Nat) : 0 ≤ hitF b t s i ∧ hitF b t s i ≤ forceD (b.hand i) t := by
  have := force_nn hk t i hi
  unfold hitF
  split
  · exact ⟨this, Int.le_refl _⟩
  · exact ⟨Int.le_refl _, this⟩
def lossD (b : BeltD) (i : Nat) : Int := mostA b - mostA (delB b i)
def forces (b : BeltD) (i : Nat) : Int := sumN b.nt fun t => forceD (b.hand i) t
theorem loss_nn {b : BeltD} (hk : BOK b) {i : Nat} (hi : i < b.nh) : 0 ≤ lossD b i := by
  have := mostA_mono (delB_ok hk hi) hk rfl fun t _ s => by have := cut_del (b := b) hi t s; have := hitF_rng hk hi t s; omega
  unfold lossD; omega
theorem loss_le {b : BeltD} (hk : BOK b) {i : Nat} (hi : i < b.nh) : lossD b i ≤ forces b i := by
  have : mostA b ≤ mostA (delB b i) + forces b i := by
    unfold mostA forces
    rw [show (delB b i).nt = b.nt from rfl, ← sumN_add]
    refine sumN_le fun t ht => ?_
    exact mostT_mono hk (delB_ok hk hi) ht ht fun s => by have := cut_del (b := b) hi t s; have := hitF_rng hk hi t s; omega
  unfold lossD; omega
theorem loss_none {b : BeltD} (hk : BOK b) {i : Nat} (hi : i < b.nh) (hn : ∀ m, m < 5 → (b.hand i).takes m = false) : lossD b i = 0 := by
  have h0 := loss_nn hk hi
  have hz : ∀ t s, hitF b t s i = 0 := fun t s => by
    unfold hitF
    have : ¬ anyT (takesB b i) s = true := fun h => by
      obtain ⟨m, hm, _, ht⟩ := anyT_iff.1 h
      have := hn m hm
      rw [show takesB b i m = (b.hand i).takes m from rfl, this] at ht; cases ht
    rw [if_neg this]
  have : mostA b ≤ mostA (delB b i) := mostA_mono hk (delB_ok hk hi) rfl fun t _ s => by have := cut_del (b := b) hi t s; have := hz t s; omega
  unfold lossD at *; omega
end Go.Sx

/- A hand left out; what is lost without it. -/
namespace Go.Sx
open Go.Proofs
set_option maxRecDepth 100000
theorem one_rowsH {n : Nat} {H : Nat → HandD} {rv : Nat → Value} (hr : ∀ i, i < n → (rv i).oneCell' = true) : ∀ q ∈ rows n 9 (fun i => hcell (H i) (rv i)), q.oneCell' = true := by
  intro q hq
  simp only [rows, List.mem_map, List.mem_range] at hq
  obtain ⟨k, hk, rfl⟩ := hq
  have := hr (k / 9) (by omega)
  unfold hcell
  repeat' split
  all_goals first | rfl | exact this
theorem one_zero41 : ([.bool false, .bool false, .bool false, .bool false, .bool false, .int .i64 0, .int .i64 0, .int .i64 0, .slice none 0 0] : List Value).all Value.oneCell' = true := rfl
attribute [local irreducible] Code.wpIn wpListIn Exit.then Exit.inBlock BQ Again Hd St En OpT box blk RQ BQ0 fmap own Desk Chute
def lossE (b : BeltD) (hand : Int) : Int := if checkD b = 0 then (if inD hand 0 (b.nh - 1) = true then 0 else 2) else checkD b
theorem addS_ct {h' : Heap} {v : Value} (o : BeltD) (ho : BOK o) (hl : IsInts h' v (mostL o)) : CT Try.prog 76 [v] h' [] (DetW (.int .i64 (mostA o)) []) := by
  obtain ⟨ad, cp, rfl, h1', h2', hp⟩ := hl.shape
  have hlen := mostL_length o
  have hn8 := ho.n8
  have cS := add_ct h' ad (mostL o).length cp (fun i => mostT o i) (by omega) (fun i _ => by have := mostT_bound ho i; omega) (fun h0 => by
    obtain ⟨q, off, e, hh⟩ := hp h0
    exact ⟨q, off, e, fun i hi => by rw [← mostL_get hi]; exact hh i hi⟩)
  have e : sumN (mostL o).length (fun i => mostT o i) = mostA o := by rw [hlen]; rfl
  rw [e] at cS
  exact cS
end Go.Sx

/- The law BeltLost: the walk. -/
namespace Go.Sx
open Go.Proofs
set_option maxRecDepth 100000
theorem eg39 : Try.prog.eqGuardType Try.prog.depth 39 = false := by kernel_rfl
def tk5 (H : HandD) : List Bool := (List.range 5).map H.takes
theorem tk5_none {H : HandD} (h : tk5 H = [false, false, false, false, false]) : ∀ m, m < 5 → H.takes m = false := by
  intro m hm
  have e : (tk5 H)[m]? = some (H.takes m) := by simp [tk5, hm]
  rw [h] at e
  have : m = 0 ∨ m = 1 ∨ m = 2 ∨ m = 3 ∨ m = 4 := by omega
  rcases this with rfl | rfl | rfl | rfl | rfl <;> simpa using e.symm
theorem CellsH.takes {h : Heap} {b off : Nat} {H : HandD} {r : Value} (c : CellsH h b off (handL H r)) : CellsH h b (off + 0) ((tk5 H).map Value.bool) := fun j v hj => by
  have hl : ((tk5 H).map Value.bool).length = 5 := by simp [tk5]
  have hj5 : j < 5 := by have := (List.getElem?_eq_some_iff.1 hj).1; omega
  have e : (handL H r)[j]? = some v := by
    rw [row_get (by omega : j < 9), ← hj]
    simp [tk5, hj5, hcell]
  exact c j v e
theorem lossA_bound {b : BeltD} (hk : BOK b) : ∀ k, k ≤ b.nh → 0 ≤ sumN k (lossD b) ∧ sumN k (lossD b) ≤ 1600 * k := fun k hk' => by
  have h1 := sumN_nn (n := k) (f := lossD b) fun i hi => loss_nn hk (by omega)
  refine ⟨h1, ?_⟩
  have h2 := sumN_bound (n := k) (f := lossD b) (B := 1600) fun i hi => by
    have a := loss_nn hk (i := i) (by omega)
    have c := mostA_bound hk
    have d := mostA_bound (delB_ok hk (i := i) (by omega))
    unfold lossD at *; omega
  exact h2.2
theorem forceN_nn {b : BeltD} (hk : BOK b) {i : Nat} (hi : i < b.nh) (k : Nat) : 0 ≤ sumN k (fun t => forceD (b.hand i) t) ∧ sumN k (fun t => forceD (b.hand i) t) ≤ 40 * k := sumN_bound fun t _ => forceD_bound (hk.ok i hi) t
attribute [local irreducible] Code.wpIn wpListIn Exit.then Exit.inBlock BQ Again Hd St En OpT box blk RQ BQ0 fmap own Desk Chute
end Go.Sx

/- A sharing, looked at. -/
namespace Go.Sx
open Go.Proofs
set_option maxRecDepth 100000
def shM (b : BeltD) (X : Nat → Nat → Int) (h m : Nat) : Bool := inD (X h m) 0 60 && (!decide (0 < X h m) || (b.hand h).takes m)
def shH (b : BeltD) (t : Nat) (X : Nat → Nat → Int) (h : Nat) : Bool := allI 5 (shM b X h) && decide (sum5 (X h) ≤ forceD (b.hand h) t)
def shOK (b : BeltD) (t : Nat) (X : Nat → Nat → Int) : Bool := allI b.nh (shH b t X) && allI 5 fun m => decide (tot b.nh X m ≤ b.tray t m)
def shE (b : BeltD) (tray : Int) (n : Nat) (X : Nat → Nat → Int) : Int := if atD b tray = 0 then (if n = b.nh then (if shOK b tray.toNat X = true then 0 else 8) else 3) else atD b tray
def shV (b : BeltD) (X : Nat → Nat → Int) : Int := sum5 (tot b.nh X)
def tstep (X : Nat → Nat → Int) (h k : Nat) : Nat → Int := fun m => if m < k then tot (h + 1) X m else tot h X m
theorem tot_succ (X : Nat → Nat → Int) (h m : Nat) : tot (h + 1) X m = tot h X m + X h m := rfl
theorem tstep_zero (X : Nat → Nat → Int) (h : Nat) : trayL (tot h X) = trayL (tstep X h 0) := row_congr fun m _ => by simp [tstep]
theorem tstep_five (X : Nat → Nat → Int) (h : Nat) : trayL (tstep X h 5) = trayL (tot (h + 1) X) := row_congr fun m hm => by simp [tstep, hm]
theorem tstep_next (X : Nat → Nat → Int) (h k : Nat) : (fun m => if m = k then tot h X k + X h k else tstep X h k m) = tstep X h (k + 1) := by
  funext m
  unfold tstep
  by_cases e : m = k
  · subst e; simp [tot_succ]
  · by_cases h1 : m < k
    · simp [e, h1, show m < k + 1 by omega]
    · simp [e, h1, show ¬ m < k + 1 by omega]
theorem shM_rng {b : BeltD} {X : Nat → Nat → Int} {h m : Nat} (e : shM b X h m = true) : 0 ≤ X h m ∧ X h m ≤ 60 := by
  unfold shM inD at e
  simp only [Bool.and_eq_true, decide_eq_true_eq] at e
  exact e.1
theorem allI_false {n : Nat} {p : Nat → Bool} {i : Nat} (hi : i < n) (h : p i = false) : allI n p = false := by
  cases e : allI n p with
  | false => rfl
  | true => rw [allI_iff] at e; have := e i hi; rw [h] at this; cases this
theorem shE_wrong {b : BeltD} {tray : Int} {n : Nat} {X : Nat → Nat → Int} (h1 : atD b tray = 0) (h2 : n = b.nh) (h3 : shOK b tray.toNat X = false) : shE b tray n X = 8 := by
  unfold shE; rw [if_pos h1, if_pos h2, h3]; rfl
theorem tot_bound {X : Nat → Nat → Int} {m : Nat} : ∀ {h : Nat}, (∀ i, i < h → 0 ≤ X i m ∧ X i m ≤ 60) → 0 ≤ tot h X m ∧ tot h X m ≤ 60 * h := fun {h} hx => sumN_bound hx
attribute [local irreducible] Code.wpIn wpListIn Exit.then Exit.inBlock BQ Again Hd St En OpT box blk RQ BQ0 fmap own Desk Chute
end Go.Sx

/- Sharings that are tried. -/
namespace Go.Sx
open Go.Proofs
set_option maxRecDepth 100000
structure Feas (b : BeltD) (t : Nat) (X : Nat → Nat → Int) : Prop where
  nn : ∀ i m, i < b.nh → m < 5 → 0 ≤ X i m
  tk : ∀ i m, i < b.nh → m < 5 → 0 < X i m → (b.hand i).takes m = true
  le : ∀ i, i < b.nh → sum5 (X i) ≤ forceD (b.hand i) t
  tr : ∀ m, m < 5 → tot b.nh X m ≤ b.tray t m
theorem Feas.ok {b : BeltD} {t : Nat} {X : Nat → Nat → Int} (f : Feas b t X) : OutOK b.nh (takesB b) (forceB b t) X := ⟨fun i m hi hm => f.nn i m hi hm, fun i hi => f.le i hi, fun i m hi hm hp => f.tk i m hi hm hp⟩
theorem Feas.zero {b : BeltD} (hk : BOK b) {t : Nat} (ht : t < b.nt) : Feas b t (fun _ _ => 0) :=
  ⟨fun _ _ _ _ => Int.le_refl _, fun _ _ _ _ h => by omega, fun i hi => by rw [sum5_eq]; have := (forceD_bound (hk.ok i hi) t).1; omega, fun m hm => by unfold tot; rw [sumN_zero]; exact (hk.tr t m ht hm).1⟩
theorem Feas.cell {b : BeltD} (hk : BOK b) {t : Nat} {X : Nat → Nat → Int} (f : Feas b t X) {i m : Nat} (hi : i < b.nh) (hm : m < 5) : 0 ≤ X i m ∧ X i m ≤ 40 := by
  have h1 := f.nn i m hi hm
  have h2 := sumN_one (n := 5) (f := X i) (fun j hj => f.nn i j hi hj) hm
  have h3 := f.le i hi
  have h4 := (forceD_bound (hk.ok i hi) t).2
  exact ⟨h1, by unfold sum5 at h3; omega⟩
/-- A sharing that can be is not wrong. -/
theorem Feas.sh {b : BeltD} (hk : BOK b) {t : Nat} {X : Nat → Nat → Int} (f : Feas b t X) : shOK b t X = true := by
  unfold shOK
  rw [Bool.and_eq_true, allI_iff, allI_iff]
  refine ⟨fun i hi => ?_, fun m hm => decide_eq_true (f.tr m hm)⟩
  unfold shH
  rw [Bool.and_eq_true, allI_iff]
  refine ⟨fun m hm => ?_, decide_eq_true (f.le i hi)⟩
  have h1 := f.cell hk hi hm
  unfold shM
  rw [Bool.and_eq_true]
  refine ⟨by simp only [inD, decide_eq_true_eq]; omega, ?_⟩
  by_cases h0 : 0 < X i m
  · rw [f.tk i m hi hm h0]; simp
  · simp [h0]
/-- It takes no more than the most. -/
theorem Feas.most {b : BeltD} (hk : BOK b) {t : Nat} (ht : t < b.nt) {X : Nat → Nat → Int} (f : Feas b t X) : shV b X ≤ mostT b t := by
  rw [most_eq hk ht]
  have h1 := share_le (hands := allH b) f.ok (fun h hh hn m _ => absurd (by simpa [allH] using hh) hn) (w := b.tray t) f.tr (heldB b wholeD t (allH b))
  have e1 : sumN b.nh (fun h => sum5 (X h)) = shV b X := by unfold shV sum5 tot; rw [sumN_swap]
  rw [e1] at h1
  exact h1
theorem Feas.add {b : BeltD} {t : Nat} {X : Nat → Nat → Int} (f : Feas b t X) {i m : Nat} (hi : i < b.nh) (hm : m < 5) {k : Int} (h0 : 0 ≤ k) (htk : (b.hand i).takes m = true) (h1 : k ≤ forceD (b.hand i) t - sum5 (X i)) (h2 : k ≤ b.tray t m - tot b.nh X m) : Feas b t (upd2 X i m (X i m + k)) := by
  have htot : ∀ j, tot b.nh (upd2 X i m (X i m + k)) j = tot b.nh X j + if j = m then k else 0 := fun j => tot_upd2 hi
  refine ⟨fun a j ha hj => ?_, fun a j ha hj hp => ?_, fun a ha => ?_, fun j hj => ?_⟩
  · have := f.nn a j ha hj
    unfold upd2; split
    · rename_i e; obtain ⟨rfl, rfl⟩ := e; omega
    · exact this
  · by_cases e : a = i ∧ j = m
    · obtain ⟨rfl, rfl⟩ := e; exact htk
    · rw [upd2_ne e] at hp; exact f.tk a j ha hj hp
  · by_cases e : a = i
    · subst e
      have : sum5 (upd2 X a m (X a m + k) a) = sum5 (X a) + k := by
        unfold sum5
        exact sumN_upd hm (fun j _ hj => by simp [upd2, hj]) (by simp [upd2])
      omega
    · rw [upd2_row_ne e]; exact f.le a ha
  · rw [htot j]
    have := f.tr j hj
    split
    · rename_i e; subst e; omega
    · omega
def leftT (b : BeltD) (t : Nat) (X : Nat → Nat → Int) : Nat → Int := fun m => b.tray t m - tot b.nh X m
theorem leftT_add {b : BeltD} {t : Nat} {X : Nat → Nat → Int} {i m : Nat} (hi : i < b.nh) (k : Int) : (fun j => if j = m then leftT b t X m - k else leftT b t X j) = leftT b t (upd2 X i m (X i m + k)) := by
  funext j
  unfold leftT
  rw [tot_upd2 hi]
  by_cases e : j = m
  · subst e; simp; omega
  · simp [e]
theorem icell_upd (X : Nat → Nat → Int) (i m : Nat) (v : Int) : (fun a c => if a = i ∧ c = m then Value.int .i64 v else icell X a c) = icell (upd2 X i m v) := by
  funext a c
  unfold icell upd2
  split <;> rfl
attribute [local irreducible] Code.wpIn wpListIn Exit.then Exit.inBlock BQ Again Hd St En OpT box blk RQ BQ0 fmap own Desk Chute
end Go.Sx

/- The law BeltMost: the walk. -/
namespace Go.Sx
open Go.Proofs
set_option maxRecDepth 100000
theorem compl_tb : ∀ s : Fin 32, ∀ m : Fin 5, (31 - (s : Nat)).testBit (m : Nat) = !((s : Nat).testBit (m : Nat)) := by decide +kernel
theorem compl_sum {s : Nat} (hs : s < 32) (f : Nat → Int) : sumL (setL (31 - s)) f = exS s f := by
  rw [inS_sumL]
  unfold inS exS
  refine sumN_congr fun m hm => ?_
  have := compl_tb ⟨s, hs⟩ ⟨m, hm⟩
  simp only at this
  rw [this]
  cases s.testBit m <;> simp
theorem bdN_cut (b : BeltD) (t : Nat) {s : Nat} (hs : s < 32) : bdN b t s = cutB b t s := by
  unfold bdN cutB
  rw [compl_sum hs, beh_eq]
theorem share_feas {b : BeltD} (hk : BOK b) {t : Nat} (ht : t < b.nt) : Feas b t (shB b wholeD t (allH b)).1 := by
  have ok := out_ok b hk wholeD t (allH b) (allH_lt b)
  have htot := shareS_tot (takes := takesB b) hk.h5 (allH_lt b) (force_nn hk t) (fun m => (wholeD (b.tray t) m).toNat) 5 (Nat.le_refl _)
  have e0 : shareS (takesB b) (forceB b t) (allH b) (fun m => (wholeD (b.tray t) m).toNat) 5 = shB b wholeD t (allH b) := rfl
  rw [e0] at htot
  refine ⟨ok.pos, ok.tk, ok.le, fun m hm => ?_⟩
  have h2 := htot m
  have h5 := hk.tr t m ht hm
  have h6 : (((wholeD (b.tray t) m).toNat : Nat) : Int) = b.tray t m := by unfold wholeD; omega
  omega
theorem share_val (b : BeltD) (t : Nat) : shV b (shB b wholeD t (allH b)).1 = mostT b t := by
  unfold shV mostT sum5 tot
  rw [sumN_swap]
theorem most_tray {b : BeltD} (hk : BOK b) {t : Nat} (ht : t < b.nt) : mostT b t ≤ sum5 (b.tray t) := by
  have h1 := most_le hk ht 0
  have h2 : behL b.nh (takesB b) (forceB b t) (allH b) 0 = 0 := by
    rw [beh_sum, ← sumN_zero b.nh]
    refine sumN_congr fun i _ => ?_
    unfold hitF
    rw [if_neg]
    intro h
    obtain ⟨m, _, h2, _⟩ := anyT_iff.1 h
    simp at h2
  have h3 : exS 0 (b.tray t) = sum5 (b.tray t) := sumN_congr fun m _ => by simp
  unfold cutB at h1
  omega
theorem atD_in {b : BeltD} (hk : BOK b) {t : Nat} (ht : t < b.nt) : atD b t = 0 := by
  have : inD (t : Int) 0 (b.nt - 1) = true := by simp only [inD, decide_eq_true_eq]; omega
  simp [atD, check_ok.2 hk, this]
attribute [local irreducible] Code.wpIn wpListIn Exit.then Exit.inBlock BQ Again Hd St En OpT box blk RQ BQ0 fmap own Desk Chute
end Go.Sx

/- Numbers in some order; a belt cloned and let be. -/
namespace Go.Sx
open Go.Proofs
set_option maxRecDepth 100000
theorem ints_length (n : Nat) (f : Nat → Int) : (ints n f).length = n := by simp [ints]
theorem ints_get {n : Nat} {f : Nat → Int} {j : Nat} (hj : j < n) : (ints n f)[j]? = some (.int .i64 (f j)) := by simp [ints, hj]
theorem ints_snoc (n : Nat) (f : Nat → Int) (v : Int) : ints n f ++ [.int .i64 v] = ints (n + 1) (fun j => if j = n then v else f j) := by
  unfold ints
  rw [List.range_succ, List.map_append]
  congr 1
  · refine List.map_congr_left fun j hj => ?_
    have : j ≠ n := by have := List.mem_range.1 hj; omega
    simp [this]
  · simp
theorem ints_app_set {n : Nat} {f : Nat → Int} {tail : List Value} {j : Nat} (hj : j < n) (v : Int) : (ints n f ++ tail).set j (.int .i64 v) = ints n (fun i => if i = j then v else f i) ++ tail := by
  rw [List.set_append_left _ _ (by rw [ints_length]; exact hj)]
  congr 1
  apply List.ext_getElem?
  intro i
  rw [List.getElem?_set]
  by_cases e : j = i
  · subst e; simp [ints, hj]
  · by_cases h : i < n
    · simp [ints, h, e, Ne.symm e]
    · simp [ints, h, e]
attribute [local irreducible] Code.wpIn wpListIn Exit.then Exit.inBlock BQ Again Hd St En OpT box blk RQ BQ0 fmap own Desk Chute
theorem cloneF_ct (h : Heap) (v : Value) (b : BeltD) (hb : IsBelt h v b) (hs : Small b) : CT Try.prog 22 [v] h [] (fun v' h' Γ' => IsBelt h' v' b ∧ Γ' = []) := by
  have c := clone_ct h v b hb hs
  refine ⟨c.enters, fun Φ w s => (c.run Φ w s).mono fun e w' ⟨v', h', Γ', he, hsub, ⟨tad, tcp, had, hcp, rv, hv, hR, hΓ⟩, s'⟩ => ?_⟩
  subst hv hΓ
  obtain ⟨h2, s2, hsl2, st2⟩ := s'.freeze_own
  obtain ⟨h3, s3, hsl3, st3⟩ := st2.freeze_own
  exact ⟨_, h3, [], he, hsub.trans (s2.trans s3), ⟨⟨_, _, rfl, SlH.mono s3 hsl2, rv, hsl3, fun i hi => (hR i hi).mono (s2.trans s3)⟩, rfl⟩, st3⟩
end Go.Sx

/- The rule and the most, what was on trays and is; one tray alone: plain. -/
namespace Go.Sx
theorem forceN_str {H : HandD} (o : OKH H) : ∀ k, (forceN H k).1 ≤ H.str ∧ 0 ≤ (forceN H k).2
  | 0 => by simp [forceN, o.s0]
  | k + 1 => by
    obtain ⟨a, c⟩ := forceN_str o k
    rw [forceN_succ]
    unfold forceS
    split
    · simp [o.s0]
    · have := Int.mul_nonneg o.t0 c
      have := o.s0
      simp only; omega
theorem forceD_str {H : HandD} (o : OKH H) (t : Nat) : forceD H t ≤ H.str := (forceN_str o (t + 1)).1
theorem forceD_fresh {H : HandD} (o : OKH H) (hr : H.rests = []) : forceD H 0 = H.str := by
  show (forceN H 1).1 = _
  rw [forceN_succ]
  unfold forceS forceN
  rw [hr]
  have := o.s0
  simp; omega
structure RuledF (o : BeltD) (L P : Nat → Nat → Int) : Prop where
  lr : ∀ t m, t < o.nt → m < 5 → 0 ≤ L t m ∧ L t m ≤ o.tray t m
  pn : ∀ h m, h < o.nh → m < 5 → 0 ≤ P h m
  pt : ∀ h m, h < o.nh → m < 5 → 0 < P h m → (o.hand h).takes m = true
  eq : ∀ m, m < 5 → tot o.nt o.tray m = tot o.nt L m + tot o.nh P m
  force : ∀ h, h < o.nh → sum5 (P h) ≤ sumN o.nt fun t => forceD (o.hand h) t
  most : sumN o.nh (fun h => sum5 (P h)) ≤ mostA o
theorem sumN_pos {n : Nat} {f : Nat → Int} (h : 0 < sumN n f) : ∃ i, i < n ∧ 0 < f i := by
  induction n with
  | zero => simp [sumN] at h
  | succ n ih =>
    simp only [sumN] at h
    by_cases e : 0 < f n
    · exact ⟨n, by omega, e⟩
    · obtain ⟨i, hi, hp⟩ := ih (by omega)
      exact ⟨i, by omega, hp⟩
/-- One tray alone, with hands that never rest. -/
def freshH (H : HandD) : HandD := { H with rests := [] }
def oneB (o : BeltD) (t : Nat) : BeltD := ⟨1, fun _ => o.tray t, o.nh, fun h => freshH (o.hand h)⟩
theorem oneB_ok {o : BeltD} (hk : BOK o) {t : Nat} (ht : t < o.nt) : BOK (oneB o t) :=
  ⟨Nat.le_refl _, by show 1 ≤ 8; omega, hk.h5, fun _ m _ hm => hk.tr t m ht hm, fun i hi => ⟨(hk.ok i hi).s0, (hk.ok i hi).s1, (hk.ok i hi).t0, (hk.ok i hi).t1⟩, hk.sl, fun i _ j hj => by simp [oneB, freshH] at hj, fun _ _ => rfl⟩
end Go.Sx

/- The law BeltRuled: the walk. -/
namespace Go.Sx
open Go.Proofs
set_option maxRecDepth 100000
theorem hands_put (H : Nat → HandD) (rv : Nat → Value) (i : Nat) (x : HandD) (r : Value) : (fun a b => if a = i then hcell x r b else hcell (H a) (rv a) b) = fun a => hcell ((fun j => if j = i then x else H j) a) ((fun j => if j = i then r else rv j) a) := by
  funext a b
  by_cases e : a = i
  · subst e; simp
  · simp [e]
def istep (base : Nat → Int) (X : Nat → Nat → Int) (h k : Nat) : Nat → Int := fun m => base m + tstep X h k m
theorem istep_zero (base : Nat → Int) (X : Nat → Nat → Int) (h : Nat) : trayL (fun m => base m + tot h X m) = trayL (istep base X h 0) := row_congr fun m _ => by simp [istep, tstep]
theorem istep_five (base : Nat → Int) (X : Nat → Nat → Int) (h : Nat) : trayL (istep base X h 5) = trayL (fun m => base m + tot (h + 1) X m) := row_congr fun m hm => by simp [istep, tstep, hm]
theorem istep_next (base : Nat → Int) (X : Nat → Nat → Int) (h k : Nat) : (fun m => if m = k then base k + tot h X k + X h k else istep base X h k m) = istep base X h (k + 1) := by
  funext m
  have e := congrFun (tstep_next X h k) m
  unfold istep
  rw [← e]
  by_cases e1 : m = k
  · subst e1; simp; omega
  · simp [e1]
theorem row5_congr {f g : Nat → Int} (h : ∀ m, m < 5 → f m = g m) : row5 f = row5 g := List.map_congr_left fun m hm => h m (by simpa using hm)
def rxK (rv : Nat → Value) (k : Nat) : Nat → Value := fun i => if i < k then nilS else rv i
theorem rxK_next (n : Nat) (H : Nat → HandD) (rv : Nat → Value) (k : Nat) : rows n 9 (fun a j => if a = k ∧ j = 8 then Value.slice none 0 0 else hcell (H a) (rxK rv k a) j) = rows n 9 (fun a => hcell (H a) (rxK rv (k + 1) a)) := by
  refine rows_congr fun a j _ hj => ?_
  by_cases e : a = k
  · subst e
    have h1 : rxK rv (a + 1) a = nilS := by simp [rxK]
    rw [h1]
    by_cases e2 : j = 8
    · subst e2; simp [hcell, nilS]
    · have h2 : ¬ (a = a ∧ j = 8) := fun h => e2 h.2
      rw [if_neg h2]
      have : j < 5 ∨ j = 5 ∨ j = 6 ∨ j = 7 := by omega
      rcases this with h | rfl | rfl | rfl
      · simp [hcell, h]
      · simp [hcell]
      · simp [hcell]
      · simp [hcell]
  · have : rxK rv (k + 1) a = rxK rv k a := by
      unfold rxK
      by_cases h : a < k
      · simp [h, show a < k + 1 by omega]
      · simp [h, show ¬ a < k + 1 by omega]
    have h2 : ¬ (a = k ∧ j = 8) := fun h => e h.1
    rw [if_neg h2, this]
def mkB (b : BeltD) (H : Nat → HandD) : BeltD := ⟨b.nt, b.tray, b.nh, H⟩
theorem mkB_ok {b : BeltD} (hk : BOK b) {H : Nat → HandD} (h : ∀ i, i < b.nh → OKX b.nt (H i)) : BOK (mkB b H) :=
  ⟨hk.n1, hk.n8, hk.h5, hk.tr, fun i hi => (h i hi).ok, fun i hi => (h i hi).sl, fun i hi => (h i hi).re, fun i hi => (h i hi).ri⟩
attribute [local irreducible] Code.wpIn wpListIn Exit.then Exit.inBlock BQ Again Hd St En OpT box blk RQ BQ0 fmap own Desk Chute
end Go.Sx

/- The reference: numbers allowed, rests, the force of a hand, sums, hands. -/
namespace Go.Sx
open Go.Proofs
set_option maxRecDepth 100000
theorem force_run {H : HandD} {base : Nat} (h0 : (forceN H base).2 = 0) : ∀ i, (∀ j : Nat, base ≤ j → j ≤ base + i → H.rests.contains (j : Int) = false) → forceN H (base + i + 1) = (max 0 (H.str - H.tire * i), (i : Int) + 1)
  | 0, h => by
    rw [Nat.add_zero, forceN_succ]; unfold forceS
    rw [h base (by omega) (by omega), h0]; simp
  | i + 1, h => by
    have ih := force_run h0 i fun j h1 h2 => h j h1 (by omega)
    rw [show base + (i + 1) + 1 = (base + i + 1) + 1 by omega, forceN_succ, ih]; unfold forceS
    rw [h (base + i + 1) (by omega) (by omega)]; simp
theorem force_base {H : HandD} {base : Nat} (h : base = 0 ∨ H.rests.contains ((base : Int) - 1) = true) : (forceN H base).2 = 0 := by
  cases base with
  | zero => rfl
  | succ n =>
    rw [forceN_succ]; unfold forceS
    rcases h with h | h
    · omega
    · rw [show ((n + 1 : Nat) : Int) - 1 = n by omega] at h
      rw [h]; rfl
/-- The force, told from the last rest. -/
theorem force_back {H : HandD} {t k : Nat} (hk : k ≤ t) (hno : ∀ j : Nat, t - k ≤ j → j ≤ t → H.rests.contains (j : Int) = false) (hb : k = t ∨ H.rests.contains ((t : Int) - 1 - k) = true) : forceD H t = max 0 (H.str - H.tire * k) := by
  have e : t + 1 = (t - k) + k + 1 := by omega
  have h0 : (forceN H (t - k)).2 = 0 := force_base (by
    rcases hb with rfl | hb
    · left; omega
    · right; rw [show ((t - k : Nat) : Int) - 1 = (t : Int) - 1 - k by omega]; exact hb)
  unfold forceD
  rw [e, force_run h0 k fun j h1 h2 => hno j h1 (by omega)]
theorem force_at_rest {H : HandD} {t : Nat} (h : H.rests.contains (t : Int) = true) : forceD H t = 0 := by
  unfold forceD; rw [forceN_succ]; unfold forceS; rw [h]; rfl
theorem contains_at {l : List Int} {i : Nat} {x : Int} (hi : i < l.length) (h : l[i] = x) : l.contains x = true := by
  rw [List.contains_iff_mem]; subst h; exact List.getElem_mem hi
theorem contains_not {l : List Int} {x : Int} (h : ∀ i (hi : i < l.length), l[i] ≠ x) : l.contains x = false := by
  rw [Bool.eq_false_iff]; intro hc
  rw [List.contains_iff_mem] at hc
  obtain ⟨i, hi, e⟩ := List.getElem_of_mem hc
  exact h i hi e
attribute [local irreducible] Code.wpIn wpListIn Exit.then Exit.inBlock BQ Again Hd St En OpT box blk RQ BQ0 fmap own Desk Chute
theorem off_ct (n lo hi : Int) (h : Heap) : CT Try.prog 79 [.int .i64 n, .int .i64 lo, .int .i64 hi] h [] (DetW (.bool (!inD n lo hi)) []) := by
  refine ct_intro Try.func79 rfl rfl rfl rfl fun Φ => ?_
  skip
  by_cases h1 : n < lo
  · refine en_seq <| en_region <| en_det (opT_assign rfl) rfl <| en_nil <| en_then <| en_seq <| en_region <| en_det (opT_move rfl) rfl <| en_det (opT_move rfl) rfl <| en_det (opT_lss_t rfl rfl (by omega)) rfl <| en_det (opT_move rfl) rfl <| en_g_no rfl rfl rfl <| en_g_no rfl rfl rfl <| en_g_no rfl rfl rfl <| ?_
    first | refine en_det (opT_pick_t rfl rfl) rfl ?_ | refine en_det (opT_pick_f rfl rfl) rfl ?_
    refine en_det (opT_assign rfl) rfl <| en_nil <| en_then <| en_ret <| ?_
    refine en_return (rs := [.tmp 6]) rfl (.cons (.tmp rfl) .nil) (.refl _) (Γ1 := []) ⟨by simp [resVal, inD]; omega, rfl⟩
  · by_cases h2 : hi < n
    · skip
      refine en_seq <| en_region <| en_det (opT_assign rfl) rfl <| en_nil <| en_then <| en_seq <| en_region <| en_det (opT_move rfl) rfl <| en_det (opT_move rfl) rfl <| en_det (opT_lss_f rfl rfl (by omega)) rfl <| en_det (opT_move rfl) rfl <| en_g_yes rfl rfl <| en_det (opT_move rfl) rfl <| en_g_yes rfl rfl <| en_det (opT_move rfl) rfl <| en_g_yes rfl rfl <| en_det (opT_gtr_t rfl rfl (by omega)) rfl <| ?_
      first | refine en_det (opT_pick_t rfl rfl) rfl ?_ | refine en_det (opT_pick_f rfl rfl) rfl ?_
      refine en_det (opT_assign rfl) rfl <| en_nil <| en_then <| en_ret <| ?_
      refine en_return (rs := [.tmp 6]) rfl (.cons (.tmp rfl) .nil) (.refl _) (Γ1 := []) ⟨by simp [resVal, inD]; omega, rfl⟩
    · skip
      refine en_seq <| en_region <| en_det (opT_assign rfl) rfl <| en_nil <| en_then <| en_seq <| en_region <| en_det (opT_move rfl) rfl <| en_det (opT_move rfl) rfl <| en_det (opT_lss_f rfl rfl (by omega)) rfl <| en_det (opT_move rfl) rfl <| en_g_yes rfl rfl <| en_det (opT_move rfl) rfl <| en_g_yes rfl rfl <| en_det (opT_move rfl) rfl <| en_g_yes rfl rfl <| en_det (opT_gtr_f rfl rfl (by omega)) rfl <| ?_
      first | refine en_det (opT_pick_t rfl rfl) rfl ?_ | refine en_det (opT_pick_f rfl rfl) rfl ?_
      refine en_det (opT_assign rfl) rfl <| en_nil <| en_then <| en_ret <| ?_
      refine en_return (rs := [.tmp 6]) rfl (.cons (.tmp rfl) .nil) (.refl _) (Γ1 := []) ⟨by simp [resVal, inD]; omega, rfl⟩
theorem rests_ct (h : Heap) (H : HandD) (r : Value) (t : Int) (hr : IsInts h r H.rests) : CT Try.prog 91 [.agg (handL H r).toArray, .int .i64 t] h [] (DetW (.bool (H.rests.contains t)) []) := by
  obtain ⟨ad, cp, rfl, hl, hc, hp⟩ := hr.shape
  refine ct_intro Try.func91 rfl rfl rfl rfl fun Φ => ?_
  refine en_seq <| en_region <| en_box rfl rfl rfl fun b2 => en_det (opT_assign rfl) rfl <| en_nil <| en_then <| en_seq <| en_seq <| en_region <| en_det (opT_assign rfl) rfl <| en_nil <| en_then <| en_block <| ?_
  refine en_loop (fun k => k ≤ H.rests.length ∧ ∀ i (hi : i < H.rests.length), i < k → H.rests[i] ≠ t) (fun k : Nat => [(1, .int .i64 t), (2, pt b2), (5, .int .i64 k)]) (fun _ => h) (fun _ => [box b2 127 (handL H (.slice ad H.rests.length cp))]) (fun k => H.rests.length - k) 0 ⟨by omega, fun i _ hi => by omega⟩ ⟨rfl, rfl, rfl, trivial⟩ (.refl _) (tkAll _) fun k ⟨hk, hb⟩ => ?_
  refine en_seq <| en_seq <| en_region <| en_det (opT_move rfl) rfl <| en_det (opT_fieldAddr rfl) rfl <| en_det (opT_load_own rfl rfl) rfl <| en_det (opT_len rfl) rfl <| ?_
  first | refine en_det (opT_lss_t rfl rfl (by omega)) rfl ?_ | refine en_det (opT_lss_f rfl rfl (by omega)) rfl ?_ | refine en_det (opT_lss rfl rfl) rfl ?_
  refine en_nil <| en_then <| ?_
  refine en_if rfl (fun hlt => ?_) (fun hlt => ?_)
  · skip
    have hkl : k < H.rests.length := by omega
    obtain ⟨q, off, rfl, hcc⟩ := hp (by omega)
    have hck := hcc k hkl
    skip
    by_cases hx : H.rests[k] = t
    · refine en_skip <| en_then <| en_seq <| en_block <| en_seq <| en_region <| en_det (opT_fieldAddr rfl) rfl <| en_det (opT_load_own rfl rfl) rfl <| en_det (opT_move rfl) rfl <| ?_
      first | refine en_det (opT_idx1 rfl rfl (by omega) (by omega)) rfl ?_ | refine en_det (opT_idx (ks := 0) rfl rfl (by omega) (by omega)) rfl ?_
      first | refine en_det (opT_load_h rfl (by assumption)) rfl ?_ | refine en_det (opT_load_own rfl rfl) rfl ?_
      refine en_det (opT_move rfl) rfl <| en_det (opT_eql_t rfl rfl (by omega)) rfl <| en_nil <| en_then <| en_cond_t rfl <| en_seq <| en_region <| en_det (opT_assign rfl) rfl <| en_nil <| en_then <| en_ret <| en_blk_ret <| en_then_ret <| en_then_ret <| en_blk_ret <| en_then_ret <| ?_
      refine en_return (rs := [.tmp 4]) rfl (.cons (.tmp rfl) .nil) (.refl _) (Γ1 := []) ⟨by rw [contains_at hkl hx]; rfl, rfl⟩
    · skip
      refine en_skip <| en_then <| en_seq <| en_block <| en_seq <| en_region <| en_det (opT_fieldAddr rfl) rfl <| en_det (opT_load_own rfl rfl) rfl <| en_det (opT_move rfl) rfl <| ?_
      first | refine en_det (opT_idx1 rfl rfl (by omega) (by omega)) rfl ?_ | refine en_det (opT_idx (ks := 0) rfl rfl (by omega) (by omega)) rfl ?_
      first | refine en_det (opT_load_h rfl (by assumption)) rfl ?_ | refine en_det (opT_load_own rfl rfl) rfl ?_
      refine en_det (opT_move rfl) rfl <| en_det (opT_eql_f rfl rfl (by omega)) rfl <| en_nil <| en_then <| en_cond_f rfl <| en_skip <| en_blk <| en_then <| en_region <| en_det (opT_move rfl) rfl <| en_det (opT_add rfl rfl (by constructor <;> omega)) rfl <| en_det (opT_assign rfl) rfl <| en_nil <| en_then <| ?_
      refine en_again (k + 1) ⟨by omega, fun i hi h1 => ?_⟩ (by omega) ⟨rfl, rfl, gi rfl (by simp), trivial⟩ (.refl _) inferInstance
      rcases Nat.lt_succ_iff_lt_or_eq.1 h1 with h2 | rfl
      · exact hb i hi h2
      · exact hx
  · skip
    have e := contains_not (l := H.rests) (x := t) fun i hi => hb i hi (by omega)
    refine en_exit <| en_then_exit <| en_then_exit <| en_blk_hit <| en_then <| en_seq <| en_region <| en_det (opT_assign rfl) rfl <| en_nil <| en_then <| en_ret <| ?_
    refine en_return (rs := [.tmp 4]) rfl (.cons (.tmp rfl) .nil) (.refl _) (Γ1 := []) ⟨by rw [e]; rfl, rfl⟩
theorem forceR_ct (h : Heap) (tv hv : Value) (H : Nat → HandD) (nh hand tray : Nat) (hH : IsHands h hv nh H) (hh : hand < nh) (ok : OKH (H hand)) (ht : tray < 1000) :
    CT Try.prog 36 [.agg #[tv, hv], .int .i64 hand, .int .i64 tray] h [] (DetW (.int .i64 (forceD (H hand) tray)) []) := by
  obtain ⟨rv, ⟨_, ad, cp, rfl, hm, hc, hp⟩, hr⟩ := hH
  obtain ⟨bh, off, rfl, hcells⟩ := hp (by omega)
  have hrow := hcells.row hh
  have hri := hr hand hh
  have hone := hri.one
  generalize H hand = H at *
  generalize rv hand = r at *
  have cR := fun t => rests_ct h H r t hri
  have hone' := List.all_eq_true.1 (one_handV (H := H) hone)
  refine ct_intro Try.func36 rfl rfl rfl rfl fun Φ => ?_
  refine en_seq <| en_region <| en_box rfl rfl rfl fun b3 => en_det (opT_assign rfl) rfl <| en_nil <| en_then <| en_seq <| en_region <| en_det (opT_fieldAddr rfl) rfl <| en_det (opT_load_own rfl rfl) rfl <| en_det (opT_move rfl) rfl <| ?_
  first | refine en_det (opT_idx1 rfl rfl (by omega) (by omega)) rfl ?_ | refine en_det (opT_idx (ks := 0) rfl rfl (by omega) (by omega)) rfl ?_
  refine en_det (opT_loadA_h rfl hrow (row_length _ _)) rfl <| en_alloc rfl fun b7 => ?_
  refine en_det0 (opT_storeW rfl rfl (row_length _ _) rfl hone') <| en_nil <| en_then <| en_seq <| en_seq <| en_region <| en_det (opT_loadW_own rfl (row_length _ _)) rfl <| en_det (opT_move rfl) rfl <| en_calld (cR tray) rfl rfl rfl rfl <| en_nil <| en_then <| ?_
  obtain ⟨s0, s1, t0, t1⟩ := ok
  skip
  cases h0 : H.rests.contains (tray : Int) with
  | true =>
    refine en_cond_t rfl <| en_seq <| en_region <| en_det (opT_assign rfl) rfl <| en_nil <| en_then <| en_ret <| en_then_ret <| ?_
    refine en_return (rs := [.tmp 6]) rfl (.cons (.tmp rfl) .nil) (.refl _) (Γ1 := []) ⟨by rw [force_at_rest h0]; rfl, rfl⟩
  | false =>
    refine en_cond_f rfl <| en_skip <| en_then <| en_seq <| en_region <| en_det (opT_fieldAddr rfl) rfl <| en_det (opT_load_own rfl rfl) rfl <| en_det (opT_assign rfl) rfl <| en_nil <| en_then <| en_seq <| en_seq <| en_region <| en_det (opT_move rfl) rfl <| en_det (opT_sub rfl rfl (by constructor <;> omega)) rfl <| en_det (opT_assign rfl) rfl <| en_nil <| en_then <| en_block <| ?_
    refine en_loop (fun k => k ≤ tray ∧ ∀ j : Nat, tray - k ≤ j → j ≤ tray → H.rests.contains (j : Int) = false) (fun k : Nat => [(7, pt b7), (8, .int .i64 (H.str - H.tire * k)), (9, .int .i64 ((tray : Int) - 1 - k))]) (fun _ => h) (fun _ => [box b7 127 (handL H r), box b3 59 [tv, .slice (some ⟨bh, off, none⟩) nh cp]]) (fun k => tray - k) 0 ⟨by omega, fun j h1 h2 => by rw [show j = tray by omega]; exact h0⟩ ⟨rfl, gi rfl (by simp), gi rfl (by simp), trivial⟩ (.refl _) (tkAll _) fun k ⟨hk, hno⟩ => ?_
    have hm0 : 0 ≤ H.tire * (k : Int) := Int.mul_nonneg t0 (by omega)
    have hm1 : H.tire * (k : Int) ≤ 10 * 1000 := Int.mul_le_mul t1 (by omega) (by omega) (by omega)
    skip
    by_cases hkt : k = tray
    · have hF := force_back hk hno (.inl hkt)
      by_cases hn : H.str - H.tire * (k : Int) < 0
      · skip
        refine en_seq <| en_seq <| en_region <| en_det (opT_move rfl) rfl <| en_det (opT_geq_f rfl rfl (by omega)) rfl <| en_det (opT_move rfl) rfl <| en_g_no rfl rfl rfl <| en_g_no rfl rfl rfl <| en_g_no rfl rfl rfl <| en_g_no rfl rfl rfl <| ?_
        first | refine en_det (opT_pick_t rfl rfl) rfl ?_ | refine en_det (opT_pick_f rfl rfl) rfl ?_
        refine en_nil <| en_then <| en_cond_f rfl <| en_exit <| en_then_exit <| en_then_exit <| en_blk_hit <| en_then <| en_seq <| en_seq <| en_region <| en_det (opT_move rfl) rfl <| en_det (opT_lss_t rfl rfl (by omega)) rfl <| en_nil <| en_then <| en_cond_t rfl <| en_seq <| en_region <| en_det (opT_assign rfl) rfl <| en_nil <| en_then <| en_ret <| en_then_ret <| ?_
        refine en_return (rs := [.tmp 6]) rfl (.cons (.tmp rfl) .nil) (.refl _) (Γ1 := []) ⟨by rw [hF]; simp [resVal]; omega, rfl⟩
      · skip
        refine en_seq <| en_seq <| en_region <| en_det (opT_move rfl) rfl <| en_det (opT_geq_f rfl rfl (by omega)) rfl <| en_det (opT_move rfl) rfl <| en_g_no rfl rfl rfl <| en_g_no rfl rfl rfl <| en_g_no rfl rfl rfl <| en_g_no rfl rfl rfl <| ?_
        first | refine en_det (opT_pick_t rfl rfl) rfl ?_ | refine en_det (opT_pick_f rfl rfl) rfl ?_
        refine en_nil <| en_then <| en_cond_f rfl <| en_exit <| en_then_exit <| en_then_exit <| en_blk_hit <| en_then <| en_seq <| en_seq <| en_region <| en_det (opT_move rfl) rfl <| en_det (opT_lss_f rfl rfl (by omega)) rfl <| en_nil <| en_then <| en_cond_f rfl <| en_skip <| en_then <| en_seq <| en_region <| en_det (opT_move rfl) rfl <| en_det (opT_assign rfl) rfl <| en_nil <| en_then <| en_ret <| ?_
        refine en_return (rs := [.tmp 6]) rfl (.cons (.tmp rfl) .nil) (.refl _) (Γ1 := []) ⟨by rw [hF]; simp [resVal]; omega, rfl⟩
    · cases hc1 : H.rests.contains ((tray : Int) - 1 - k) with
      | true =>
        have hF := force_back hk hno (.inr hc1)
        have cR' := cR ((tray : Int) - 1 - k)
        rw [hc1] at cR'
        by_cases hn : H.str - H.tire * (k : Int) < 0
        · skip
          refine en_seq <| en_seq <| en_region <| en_det (opT_move rfl) rfl <| en_det (opT_geq_t rfl rfl (by omega)) rfl <| en_det (opT_move rfl) rfl <| en_g_yes rfl rfl <| en_det (opT_loadW_own rfl (row_length _ _)) rfl <| en_g_yes rfl rfl <| en_det (opT_move rfl) rfl <| en_g_yes rfl rfl <| en_calld (cR') rfl rfl rfl rfl <| en_g_yes rfl rfl <| ?_
          first | refine en_det (opT_not_t rfl) rfl ?_ | refine en_det (opT_not_f rfl) rfl ?_ | refine en_det (opT_not rfl) rfl ?_
          first | refine en_det (opT_pick_t rfl rfl) rfl ?_ | refine en_det (opT_pick_f rfl rfl) rfl ?_
          refine en_nil <| en_then <| en_cond_f rfl <| en_exit <| en_then_exit <| en_then_exit <| en_blk_hit <| en_then <| en_seq <| en_seq <| en_region <| en_det (opT_move rfl) rfl <| en_det (opT_lss_t rfl rfl (by omega)) rfl <| en_nil <| en_then <| en_cond_t rfl <| en_seq <| en_region <| en_det (opT_assign rfl) rfl <| en_nil <| en_then <| en_ret <| en_then_ret <| ?_
          refine en_return (rs := [.tmp 6]) rfl (.cons (.tmp rfl) .nil) (.refl _) (Γ1 := []) ⟨by rw [hF]; simp [resVal]; omega, rfl⟩
        · skip
          refine en_seq <| en_seq <| en_region <| en_det (opT_move rfl) rfl <| en_det (opT_geq_t rfl rfl (by omega)) rfl <| en_det (opT_move rfl) rfl <| en_g_yes rfl rfl <| en_det (opT_loadW_own rfl (row_length _ _)) rfl <| en_g_yes rfl rfl <| en_det (opT_move rfl) rfl <| en_g_yes rfl rfl <| en_calld (cR') rfl rfl rfl rfl <| en_g_yes rfl rfl <| ?_
          first | refine en_det (opT_not_t rfl) rfl ?_ | refine en_det (opT_not_f rfl) rfl ?_ | refine en_det (opT_not rfl) rfl ?_
          first | refine en_det (opT_pick_t rfl rfl) rfl ?_ | refine en_det (opT_pick_f rfl rfl) rfl ?_
          refine en_nil <| en_then <| en_cond_f rfl <| en_exit <| en_then_exit <| en_then_exit <| en_blk_hit <| en_then <| en_seq <| en_seq <| en_region <| en_det (opT_move rfl) rfl <| en_det (opT_lss_f rfl rfl (by omega)) rfl <| en_nil <| en_then <| en_cond_f rfl <| en_skip <| en_then <| en_seq <| en_region <| en_det (opT_move rfl) rfl <| en_det (opT_assign rfl) rfl <| en_nil <| en_then <| en_ret <| ?_
          refine en_return (rs := [.tmp 6]) rfl (.cons (.tmp rfl) .nil) (.refl _) (Γ1 := []) ⟨by rw [hF]; simp [resVal]; omega, rfl⟩
      | false =>
        have cR' := cR ((tray : Int) - 1 - k)
        rw [hc1] at cR'
        refine en_seq <| en_seq <| en_region <| en_det (opT_move rfl) rfl <| en_det (opT_geq_t rfl rfl (by omega)) rfl <| en_det (opT_move rfl) rfl <| en_g_yes rfl rfl <| en_det (opT_loadW_own rfl (row_length _ _)) rfl <| en_g_yes rfl rfl <| en_det (opT_move rfl) rfl <| en_g_yes rfl rfl <| en_calld (cR') rfl rfl rfl rfl <| en_g_yes rfl rfl <| ?_
        first | refine en_det (opT_not_t rfl) rfl ?_ | refine en_det (opT_not_f rfl) rfl ?_ | refine en_det (opT_not rfl) rfl ?_
        first | refine en_det (opT_pick_t rfl rfl) rfl ?_ | refine en_det (opT_pick_f rfl rfl) rfl ?_
        refine en_nil <| en_then <| en_cond_t rfl <| en_skip <| en_then <| en_seq <| en_block <| en_region <| en_det (opT_move rfl) rfl <| en_det (opT_fieldAddr rfl) rfl <| en_det (opT_load_own rfl rfl) rfl <| en_det (opT_sub rfl rfl (by constructor <;> omega)) rfl <| en_det (opT_assign rfl) rfl <| en_nil <| en_blk <| en_then <| en_region <| en_det (opT_move rfl) rfl <| en_det (opT_sub rfl rfl (by constructor <;> omega)) rfl <| en_det (opT_assign rfl) rfl <| en_nil <| en_then <| ?_
        refine en_again (k + 1) ⟨by omega, fun j h1 h2 => ?_⟩ (by omega) ⟨rfl, gi rfl (by rw [Int.natCast_add, Int.mul_add]; simp; omega), gi rfl (by omega), trivial⟩ (.refl _) inferInstance
        rcases Nat.lt_or_ge j (tray - k) with h3 | h3
        · rw [show (j : Int) = (tray : Int) - 1 - k by omega]; exact hc1
        · exact hno j h3 h2
theorem sumR_ct (h : Heap) (t : Nat → Int) (ht : ∀ m, m < 5 → 0 ≤ t m ∧ t m ≤ 1000000) : CT Try.prog 35 [.agg (trayL t).toArray] h [] (DetW (.int .i64 (sum5 t)) []) := by
  have h0 := ht 0 (by omega)
  have h1 := ht 1 (by omega)
  have h2 := ht 2 (by omega)
  have h3 := ht 3 (by omega)
  have h4 := ht 4 (by omega)
  have e : trayL t = [.int .i64 (t 0), .int .i64 (t 1), .int .i64 (t 2), .int .i64 (t 3), .int .i64 (t 4)] := rfl
  have e5 : sum5 t = t 0 + t 1 + t 2 + t 3 + t 4 := by simp [sum5, sumN]
  rw [e, e5]
  generalize t 0 = a0 at *
  generalize t 1 = a1 at *
  generalize t 2 = a2 at *
  generalize t 3 = a3 at *
  generalize t 4 = a4 at *
  refine ct_intro Try.func35 rfl rfl rfl rfl fun Φ => ?_
  refine en_seq <| en_region <| en_box rfl rfl rfl fun b1 => en_det (opT_assign rfl) rfl <| en_nil <| en_then <| en_seq <| en_region <| en_det (opT_idxArr rfl rfl (by omega) (by omega)) rfl <| en_det (opT_load_own rfl rfl) rfl <| en_det (opT_idxArr rfl rfl (by omega) (by omega)) rfl <| en_det (opT_load_own rfl rfl) rfl <| en_det (opT_add rfl rfl (by constructor <;> omega)) rfl <| en_det (opT_idxArr rfl rfl (by omega) (by omega)) rfl <| en_det (opT_load_own rfl rfl) rfl <| en_det (opT_add rfl rfl (by constructor <;> omega)) rfl <| en_det (opT_idxArr rfl rfl (by omega) (by omega)) rfl <| en_det (opT_load_own rfl rfl) rfl <| en_det (opT_add rfl rfl (by constructor <;> omega)) rfl <| en_det (opT_idxArr rfl rfl (by omega) (by omega)) rfl <| en_det (opT_load_own rfl rfl) rfl <| en_det (opT_add rfl rfl (by constructor <;> omega)) rfl <| en_det (opT_assign rfl) rfl <| en_nil <| en_then <| en_ret <| ?_
  refine en_return (rs := [.tmp 2]) rfl (.cons (.tmp rfl) .nil) (.refl _) (Γ1 := []) ⟨rfl, rfl⟩
theorem handsR_ct (h : Heap) (tv hv : Value) (H : Nat → HandD) (nh : Nat) (hH : IsHands h hv nh H) (hn : nh ≤ 1000) :
    CT Try.prog 32 [.agg #[tv, hv]] h [] (fun v h' Γ' => IsInts h' v (upto nh) ∧ Γ' = []) := by
  obtain ⟨rv, ⟨_, ad, cp, rfl, hm, hc, hp⟩, hr⟩ := hH
  refine ct_intro Try.func32 rfl rfl rfl rfl fun Φ => ?_
  refine en_seq <| en_region <| en_box rfl rfl rfl fun b1 => en_det (opT_assign rfl) rfl <| en_nil <| en_then <| en_seq <| en_region <| en_det (opT_assign rfl) rfl <| en_nil <| en_then <| en_seq <| en_seq <| en_region <| en_det (opT_assign rfl) rfl <| en_nil <| en_then <| en_block <| ?_
  refine en_own_nil 3 1 ?_
  refine en_loop (fun x : Nat × Value => x.1 ≤ nh) (fun x => [(1, pt b1), (3, x.2), (4, .int .i64 x.1)]) (fun _ => h) (fun x => [own 3 1 x.2 x.1 ((upto x.1).map (Value.int .i64)), box b1 59 [tv, .slice ad nh cp]]) (fun x => nh - x.1) (0, .slice none 0 0) (by simp) ⟨rfl, rfl, rfl, trivial⟩ (.refl _) (tkAll _) fun x hk => ?_
  obtain ⟨k, v⟩ := x
  change En _ _ _ [(1, pt b1), (3, v), (4, .int .i64 k)] h [own 3 1 v k ((upto k).map (Value.int .i64)), box b1 59 [tv, .slice ad nh cp]]
  simp only at hk
  refine en_seq <| en_seq <| en_region <| en_det (opT_move rfl) rfl <| en_det (opT_fieldAddr rfl) rfl <| en_det (opT_load_own rfl rfl) rfl <| en_det (opT_len rfl) rfl <| ?_
  first | refine en_det (opT_lss_t rfl rfl (by omega)) rfl ?_ | refine en_det (opT_lss_f rfl rfl (by omega)) rfl ?_ | refine en_det (opT_lss rfl rfl) rfl ?_
  refine en_nil <| en_then <| ?_
  refine en_if rfl (fun hlt => ?_) (fun hlt => ?_)
  · skip
    refine en_skip <| en_then <| en_seq <| en_block <| en_region <| en_det (opT_move rfl) rfl <| en_det (opT_move rfl) rfl <| ?_
    refine en_op (opT_buildSlice (cs := [.int .i64 k]) rfl rfl (by kernel_rfl)) rfl fun _ _ _ _ ⟨b14, e1, e2, e3⟩ => ?_
    subst e1 e3; replace e2 := e2.symm; subst e2
    refine en_app1 rfl rfl rfl rfl rfl rfl rfl (by omega) fun ad15 cp15 hm15 hc15 => ?_
    refine en_det (opT_assign rfl) rfl <| en_nil <| en_blk <| en_then <| en_region <| en_det (opT_move rfl) rfl <| en_det (opT_add rfl rfl (by constructor <;> omega)) rfl <| en_det (opT_assign rfl) rfl <| en_nil <| en_then <| ?_
    exact en_again (k + 1, .slice ad15 (k + 1) cp15) (by simp only; omega) (by simp only; omega) ⟨rfl, rfl, gi rfl (by simp), trivial⟩ (.refl _) (by
      simp only [upto_succ, List.map_append, List.map_cons, List.map_nil]; exact inferInstance)
  · skip
    obtain rfl : k = nh := by omega
    refine en_exit <| en_then_exit <| en_then_exit <| en_blk_hit <| en_then <| en_seq <| en_region <| en_det (opT_move rfl) rfl <| en_det (opT_assign rfl) rfl <| en_nil <| en_then <| en_ret <| ?_
    refine en_freeze_own fun h1 hs1 hsl _ => ?_
    refine en_return (rs := [.tmp 2]) rfl (.cons (.tmp rfl) .nil) hs1 (Γ1 := []) ⟨by simpa [IsInts, upto_length, resVal] using hsl, rfl⟩
end Go.Sx
