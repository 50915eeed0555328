/- BeltRule: for every input the law answers true and its arguments read as before; no condition. Part 5 of 7: W33, W36, W37, BHeld, BRuled, W38, SepN, BLost, W39, W40. -/
import Derived.Test.YtennphpnklkogaaBeltRulePart4
set_option linter.unusedSimpArgs false
set_option linter.unusedVariables false
/- The law BeltEnough: the walk. -/
namespace Go.Sx
open Go.Proofs
set_option maxRecDepth 100000
section
variable {P : Program} {n : Nat} {ρ : Env} {h : Heap} {Γ : List HP} {d : Option Nat} {ty : TypeId} {pos : String} {af : Array Edge} {gd : Option (Nat × Bool)} {x y : Operand} {t t' : TypeId} {a b : Bool}
theorem opT_neB [hT : Ty P t .bool] (hx : ρ.ev x = some (.bool a)) (hy : ρ.ev y = some (.bool b)) : OpT P n ⟨d, .binOp .neq t x y t', ty, pos, af, gd⟩ ρ h Γ (Det (.bool (a != b)) h Γ) :=
  opT_pure (by simp) fun act en w => by
    have h0 : (eqGuard .neq t x y (.bool a) (.bool b)).run P w = .ok () w := by
      unfold eqGuard; simp [Sem.run, pure]
    have h1 : (Op.equal t (.bool a) (.bool b)).run P w = .ok (a == b) w := by
      unfold Op.equal Op.maxDepth
      exact run_equalIn_bool' w 9999 t a b hT.und
    have h2 : (binOp .neq t (.bool a) (.bool b)).run P w = .ok (.bool (a != b)) w := by
      simp only [binOp, Sem.run_bind, h1, Result.andThen_ok]; rfl
    simp only [execOp, en.ev hx, en.ev hy, Sem.run_bind, h0, h2, Result.andThen_ok, Sem.run, pure]
end
attribute [local irreducible] Code.wpIn wpListIn Exit.then Exit.inBlock BQ Again Hd St En OpT box blk RQ BQ0 fmap own Desk Chute
theorem enough_ct (h : Heap) (v1 v2 : Value) (y1 y2 : List Int) (hy1 : IsBytes h v1 y1) (hy2 : IsBytes h v2 y2) : CT Try.prog 3 [v1, v2] h [] (DetW (.bool true) []) := by
  refine ct_intro Try.func3 rfl rfl rfl rfl fun Φ => ?_
  refine en_seq <| en_region <| en_det (opT_assign rfl) rfl <| en_nil <| en_then <| en_seq <| en_region <| en_det (opT_move rfl) rfl <| ?_
  refine en_call (fill_ct h v1 y1 hy1) rfl rfl rfl rfl fun v h1 Γ' s1 hv => ?_
  obtain ⟨c1, rfl, rfl⟩ := hv
  refine en_norm ?_
  refine en_callq (made_ct h1 c1 v1 y1 5 5 (hy1.mono s1) (by omega) (by omega) (by omega) (by omega)) rfl rfl rfl rfl fun v h2 s2 hv => ?_
  obtain ⟨b, hB, hM⟩ := hv
  have hk := hM.ok (by omega) (by omega)
  have hk5 := hk.h5
  obtain ⟨tv, hv, rfl, ⟨tl, tad, tcp, rfl, tq⟩, ⟨rv, ⟨hl0, had, hcp, rfl, hq⟩, hr⟩⟩ := id hB
  clear tl tq hl0 hq hr
  refine en_drop ?_
  refine en_alloc rfl fun b5 => ?_
  refine en_det0 (opT_storeW rfl rfl rfl rfl (by simp [Value.oneCell'])) <| en_nil <| en_then <| en_seq <| en_region <| en_det (opT_move rfl) rfl <| ?_
  refine en_call (fill_ct h2 v2 y2 (hy2.mono (s1.trans s2))) rfl rfl rfl rfl fun v h3 Γ' s3 hv => ?_
  obtain ⟨c2, rfl, rfl⟩ := hv
  refine en_norm ?_
  have y23 := hy2.mono (s1.trans (s2.trans s3))
  refine en_det (opT_assign rfl) rfl <| en_nil <| en_then <| en_seq <| en_region <| en_det (opT_move rfl) rfl <| ?_
  refine en_callq (piled_ct h3 c2 v2 y2 14 y23 (by omega) (by omega)) rfl rfl rfl rfl fun v h4 s4 hv => ?_
  obtain ⟨left, rfl, hleft⟩ := hv
  have hl : piecesD left = true := piecesD_iff.2 fun m hm => by have := hleft m hm; omega
  have hz := kept_ok hk hl
  have hE := enough hk left
  have B4 := hB.mono (s3.trans s4)
  refine en_alloc rfl fun b7 => ?_
  refine en_det0 (opT_storeW rfl rfl rfl rfl (one_trayL _)) <| en_nil <| en_then <| en_seq <| en_region <| ?_
  first | refine en_det (opT_loadW_own rfl rfl) rfl ?_ | refine en_det (opT_loadA_own rfl) rfl ?_
  refine en_det (opT_loadW_own rfl (row_length _ _)) rfl <| ?_
  refine en_call (fewest_ct h4 _ _ b left B4) rfl rfl rfl rfl fun v h5 Γ' s5 hv => ?_
  obtain ⟨rfl, hv⟩ := hv
  refine en_norm ?_
  have B5 := B4.mono s5
  have cC := clean16_ct h5 _ _ b left B5
  rw [hz, if_pos rfl, ← hE.all] at cC
  have y25 := y23.mono (s4.trans s5)
  skip
  rcases hv with ⟨_, hf, rfl⟩ | ⟨_, hf, fv, rfl, hfv⟩ | ⟨h0, _⟩
  case inr.inr => exact absurd hz h0
  · rw [hf] at cC
    have hno := hE.none hf
    refine en_det (opT_move rfl) rfl <| en_det (opT_extract rfl rfl) rfl <| en_det (opT_extract rfl rfl) rfl <| en_det (opT_assign rfl) rfl <| en_det (opT_assign rfl) rfl <| en_nil <| en_then <| en_seq <| en_region <| ?_
    first | refine en_det (opT_loadW_own rfl rfl) rfl ?_ | refine en_det (opT_loadA_own rfl) rfl ?_
    refine en_det (opT_loadW_own rfl (row_length _ _)) rfl <| ?_
    refine en_call cC rfl rfl rfl rfl fun v h6 Γ' s6 hv => ?_
    obtain ⟨rfl, rfl⟩ := hv
    refine en_norm ?_
    refine en_det (opT_move rfl) rfl <| en_det (opT_extract rfl rfl) rfl <| en_det (opT_extract rfl rfl) rfl <| en_det (opT_assign rfl) rfl <| en_det (opT_assign rfl) rfl <| en_nil <| en_then <| en_seq <| en_seq <| en_region <| en_det (opT_move rfl) rfl <| en_det (opT_neq_f rfl rfl (by omega)) rfl <| en_det (opT_move rfl) rfl <| en_g_yes rfl rfl <| en_det (opT_move rfl) rfl <| en_g_yes rfl rfl <| en_det (opT_move rfl) rfl <| en_g_yes rfl rfl <| en_det (opT_eql_f rfl rfl (by omega)) rfl <| en_g_yes rfl rfl <| en_det (opT_neB rfl rfl) rfl <| ?_
    first | refine en_det (opT_pick_t rfl rfl) rfl ?_ | refine en_det (opT_pick_f rfl rfl) rfl ?_
    refine en_det (opT_move rfl) rfl <| en_g_yes rfl rfl <| en_det (opT_move rfl) rfl <| en_g_yes rfl rfl <| en_det (opT_neq_t rfl rfl (by omega)) rfl <| en_g_yes rfl rfl <| en_det (opT_move rfl) rfl <| en_g_yes rfl rfl <| en_det (opT_move rfl) rfl <| en_g_yes rfl rfl <| en_det (opT_neq_f rfl rfl (by omega)) rfl <| en_g_yes rfl rfl <| ?_
    first | refine en_det (opT_pick_t rfl rfl) rfl ?_ | refine en_det (opT_pick_f rfl rfl) rfl ?_
    first | refine en_det (opT_pick_t rfl rfl) rfl ?_ | refine en_det (opT_pick_f rfl rfl) rfl ?_
    refine en_nil <| en_then <| en_cond_f rfl <| en_skip <| en_then <| en_seq <| en_region <| en_det (opT_makeFunc rfl rfl) rfl <| en_det (opT_assign rfl) rfl <| en_nil <| en_then <| en_seq <| en_seq <| en_region <| en_det (opT_move rfl) rfl <| en_det (opT_eql_f rfl rfl (by omega)) rfl <| en_nil <| en_then <| en_cond_f rfl <| en_skip <| en_then <| en_seq <| en_seq <| en_region <| en_det (opT_move rfl) rfl <| en_nil <| en_then <| en_block <| ?_
    refine en_loop (fun x : Nat × Heap => x.1 ≤ 6 ∧ h6.sub x.2) (fun x => [(5, pt b5), (6, pt c2), (7, pt b7), (8, nilS), (9, .int .i64 1), (12, .func (.func 17) #[] #[pt b5, pt b7]), (69, .int .i64 x.1)]) (fun x => x.2) (fun _ => [box b7 31 (trayL left), Chute c2 v2 y2.length, box b5 26 [.slice tad b.nt tcp, .slice had b.nh hcp]]) (fun x => 6 - x.1) (0, h6) ⟨by simp, .refl _⟩ ⟨rfl, rfl, rfl, rfl, rfl, rfl, rfl, trivial⟩ (.refl _) (tkAll _) fun x hx => ?_
    obtain ⟨k, h7⟩ := x
    obtain ⟨hk6, s7⟩ := hx
    simp only at hk6 s7
    change En _ _ _ [(5, pt b5), (6, pt c2), (7, pt b7), (8, nilS), (9, .int .i64 1), (12, .func (.func 17) #[] #[pt b5, pt b7]), (69, .int .i64 k)] h7 [box b7 31 (trayL left), Chute c2 v2 y2.length, box b5 26 [.slice tad b.nt tcp, .slice had b.nh hcp]]
    refine en_seq <| en_region <| ?_
    first | refine en_det (opT_lss_t rfl rfl (by omega)) rfl ?_ | refine en_det (opT_lss_f rfl rfl (by omega)) rfl ?_ | refine en_det (opT_lss rfl rfl) rfl ?_
    refine en_nil <| en_then <| en_seq <| ?_
    refine en_if rfl (fun hlt1 => ?_) (fun hlt1 => ?_)
    · skip
      refine en_own_nil 3 1 ?_
      refine en_skip <| en_then <| en_seq <| en_block <| en_seq <| en_region <| en_det (opT_assign rfl) rfl <| en_nil <| en_then <| en_seq <| en_seq <| en_region <| en_det (opT_fieldAddr rfl) rfl <| en_det (opT_load_own rfl rfl) rfl <| en_det (opT_len rfl) rfl <| en_det (opT_move rfl) rfl <| en_nil <| en_then <| en_block <| ?_
      refine en_loop (fun x : Nat × (Nat → Bool) × Option Addr × Nat × Heap => x.1 ≤ b.nh ∧ h7.sub x.2.2.2.2) (fun x => [(5, pt b5), (6, pt c2), (7, pt b7), (8, nilS), (9, .int .i64 1), (12, .func (.func 17) #[] #[pt b5, pt b7]), (69, .int .i64 k), (15, .slice x.2.2.1 ((List.range x.1).filter x.2.1).length x.2.2.2.1), (73, .int .i64 b.nh), (74, .int .i64 x.1)]) (fun x => x.2.2.2.2) (fun x => [own 3 1 (.slice x.2.2.1 ((List.range x.1).filter x.2.1).length x.2.2.2.1) ((List.range x.1).filter x.2.1).length ((natsI ((List.range x.1).filter x.2.1)).map (Value.int .i64)), box b7 31 (trayL left), Chute c2 v2 y2.length, box b5 26 [.slice tad b.nt tcp, .slice had b.nh hcp]]) (fun x => b.nh - x.1) (0, (fun _ => false), none, 0, h7) ⟨by simp, .refl _⟩ ⟨rfl, rfl, rfl, rfl, rfl, rfl, rfl, rfl, rfl, rfl, trivial⟩ (.refl _) (tkAll _) fun x hx => ?_
      obtain ⟨t, p, rad, rcp, h8⟩ := x
      obtain ⟨ht, s8⟩ := hx
      simp only at ht s8
      change En _ _ _ [(5, pt b5), (6, pt c2), (7, pt b7), (8, nilS), (9, .int .i64 1), (12, .func (.func 17) #[] #[pt b5, pt b7]), (69, .int .i64 k), (15, .slice rad ((List.range t).filter p).length rcp), (73, .int .i64 b.nh), (74, .int .i64 t)] h8 [own 3 1 (.slice rad ((List.range t).filter p).length rcp) ((List.range t).filter p).length ((natsI ((List.range t).filter p)).map (Value.int .i64)), box b7 31 (trayL left), Chute c2 v2 y2.length, box b5 26 [.slice tad b.nt tcp, .slice had b.nh hcp]]
      have hfl := filter_len p t
      refine en_seq <| en_region <| ?_
      first | refine en_det (opT_lss_t rfl rfl (by omega)) rfl ?_ | refine en_det (opT_lss_f rfl rfl (by omega)) rfl ?_ | refine en_det (opT_lss rfl rfl) rfl ?_
      refine en_nil <| en_then <| en_seq <| ?_
      refine en_if rfl (fun hlt2 => ?_) (fun hlt2 => ?_)
      · skip
        have htk : t < b.nh := by omega
        refine en_skip <| en_then <| en_seq <| en_block <| en_seq <| en_region <| en_det (opT_move rfl) rfl <| en_det (opT_assign rfl) rfl <| en_nil <| en_then <| en_seq <| en_region <| en_det (opT_move rfl) rfl <| ?_
        refine en_callq (in18_ct h8 c2 v2 y2 2 (y25.mono (s6.trans (s7.trans s8))) (by omega)) rfl rfl rfl rfl fun v h9 s9 hv => ?_
        obtain ⟨bb, rfl⟩ := hv
        have hfs := filter_step p t bb
        skip
        cases bb with
        | true =>
          rw [if_pos rfl] at hfs
          refine en_nil <| en_then <| en_cond_t rfl <| en_region <| en_det (opT_move rfl) rfl <| en_det (opT_move rfl) rfl <| ?_
          refine en_op (opT_buildSlice (cs := [.int .i64 t]) rfl rfl (by kernel_rfl)) rfl fun _ _ _ _ ⟨b81, e1, e2, e3⟩ => ?_
          subst e1 e3; replace e2 := e2.symm; subst e2
          refine en_app1 rfl rfl rfl rfl rfl rfl rfl (by omega) fun ad82 cp82 hm82 hc82 => ?_
          refine en_det (opT_assign rfl) rfl <| en_nil <| en_blk <| en_then <| en_region <| en_det (opT_add rfl rfl (by constructor <;> omega)) rfl <| en_det (opT_move rfl) rfl <| en_nil <| en_then <| ?_
          refine en_again (t + 1, (fun i => if i = t then true else p i), ad82, cp82, h9) ⟨by simp only; omega, s8.trans s9⟩ (by simp only; omega) ⟨rfl, rfl, rfl, rfl, rfl, rfl, rfl, (by
            simp only [hfs, List.length_append, List.length_cons, List.length_nil]; rfl), rfl, gi rfl (by simp), trivial⟩ (.refl _) (by
            simp only [hfs, natsI, List.map_append, List.map_cons, List.map_nil, List.length_append, List.length_cons, List.length_nil]; exact inferInstance)
        | false =>
          simp only [Bool.false_eq_true, if_false, List.append_nil] at hfs
          refine en_nil <| en_then <| en_cond_f rfl <| en_skip <| en_blk <| en_then <| en_region <| en_det (opT_add rfl rfl (by constructor <;> omega)) rfl <| en_det (opT_move rfl) rfl <| en_nil <| en_then <| ?_
          refine en_again (t + 1, (fun i => if i = t then false else p i), rad, rcp, h9) ⟨by simp only; omega, s8.trans s9⟩ (by simp only; omega) ⟨rfl, rfl, rfl, rfl, rfl, rfl, rfl, (by simp only [hfs]; rfl), rfl, gi rfl (by simp), trivial⟩ (.refl _) (by
            simp only [hfs]; exact inferInstance)
      · skip
        obtain rfl : t = b.nh := by omega
        refine en_freeze_own fun h9 s9 hsl _ => ?_
        have hRI : IsInts h9 (.slice rad ((List.range b.nh).filter p).length rcp) (natsI ((List.range b.nh).filter p)) := by
          unfold IsInts; rw [natsI_len]; exact hsl
        have cW := with_ct h9 b5 b7 _ _ _ b left p (B5.mono (s6.trans (s7.trans (s8.trans s9)))) hk hl hRI
        rw [hno p] at cW
        refine en_exit <| en_then_exit <| en_then_exit <| en_blk_hit <| en_then <| en_seq <| en_region <| en_det (opT_move rfl) rfl <| en_det (opT_move rfl) rfl <| ?_
        refine en_call cW rfl rfl rfl rfl fun v h10 Γ' s10 hv => ?_
        obtain ⟨rfl, rfl⟩ := hv
        refine en_norm ?_
        refine en_det (opT_move rfl) rfl <| en_det (opT_extract rfl rfl) rfl <| en_det (opT_extract rfl rfl) rfl <| en_det (opT_assign rfl) rfl <| en_det (opT_assign rfl) rfl <| en_nil <| en_then <| en_seq <| en_region <| en_det (opT_move rfl) rfl <| ?_
        first | refine en_det (opT_not_t rfl) rfl ?_ | refine en_det (opT_not_f rfl) rfl ?_ | refine en_det (opT_not rfl) rfl ?_
        refine en_det (opT_move rfl) rfl <| en_g_yes rfl rfl <| en_det (opT_move rfl) rfl <| en_g_yes rfl rfl <| en_det (opT_move rfl) rfl <| en_g_no rfl rfl rfl <| en_g_no rfl rfl rfl <| en_g_no rfl rfl rfl <| en_g_undef rfl rfl rfl <| en_g_undef rfl rfl rfl <| en_g_undef rfl rfl rfl <| en_g_undef rfl rfl rfl <| en_g_undef rfl rfl rfl <| en_g_no rfl rfl rfl <| en_g_no rfl rfl rfl <| en_g_undef rfl rfl rfl <| en_g_undef rfl rfl rfl <| en_g_undef rfl rfl rfl <| en_g_undef rfl rfl rfl <| en_g_undef rfl rfl rfl <| en_g_undef rfl rfl rfl <| en_g_undef rfl rfl rfl <| en_g_undef rfl rfl rfl <| en_g_undef rfl rfl rfl <| en_g_undef rfl rfl rfl <| en_g_undef rfl rfl rfl <| en_g_no rfl rfl rfl <| en_g_yes rfl rfl <| ?_
        first | refine en_det (opT_pick_t rfl rfl) rfl ?_ | refine en_det (opT_pick_f rfl rfl) rfl ?_
        first | refine en_det (opT_pick_t rfl rfl) rfl ?_ | refine en_det (opT_pick_f rfl rfl) rfl ?_
        refine en_nil <| en_then <| en_cond_f rfl <| en_skip <| en_blk <| en_then <| en_region <| en_det (opT_add rfl rfl (by constructor <;> omega)) rfl <| en_det (opT_move rfl) rfl <| en_nil <| en_then <| ?_
        exact en_again (k + 1, h10) ⟨by simp only; omega, s7.trans (s8.trans (s9.trans s10))⟩ (by simp only; omega) ⟨rfl, rfl, rfl, rfl, rfl, rfl, gi rfl (by simp), trivial⟩ (.refl _) inferInstance
    · skip
      refine en_exit <| en_then_exit <| en_then_exit <| en_blk_hit <| en_then <| en_seq <| en_region <| ?_
      refine en_call (awake_ct h7) rfl rfl rfl rfl fun v h8 Γ' s8 hv => ?_
      obtain ⟨rfl, rfl⟩ := hv
      refine en_norm ?_
      refine en_det (opT_assign rfl) rfl <| en_nil <| en_then <| en_ret <| ?_
      refine en_return (rs := [.tmp 4]) rfl (.cons (.tmp rfl) .nil) (s1.trans (s2.trans (s3.trans (s4.trans (s5.trans (s6.trans (s7.trans s8))))))) (Γ1 := []) ⟨rfl, rfl⟩
  · rw [hf] at cC
    obtain ⟨⟨pf, hpf⟩, hcf⟩ := hE.some hf
    have hfe := hfv
    rw [hpf] at hfe
    obtain ⟨_, fad, fcp, rfl, fq⟩ := id hfv
    clear fq
    refine en_det (opT_move rfl) rfl <| en_det (opT_extract rfl rfl) rfl <| en_det (opT_extract rfl rfl) rfl <| en_det (opT_assign rfl) rfl <| en_det (opT_assign rfl) rfl <| en_nil <| en_then <| en_seq <| en_region <| ?_
    first | refine en_det (opT_loadW_own rfl rfl) rfl ?_ | refine en_det (opT_loadA_own rfl) rfl ?_
    refine en_det (opT_loadW_own rfl (row_length _ _)) rfl <| ?_
    refine en_call cC rfl rfl rfl rfl fun v h6a Γ' s6a hv => ?_
    obtain ⟨rfl, rfl⟩ := hv
    refine en_norm ?_
    have cW0 := with_ct h6a b5 b7 _ _ _ b left pf (B5.mono s6a) hk hl (hfe.mono s6a)
    rw [← hpf, hcf] at cW0
    refine en_det (opT_move rfl) rfl <| en_det (opT_extract rfl rfl) rfl <| en_det (opT_extract rfl rfl) rfl <| en_det (opT_assign rfl) rfl <| en_det (opT_assign rfl) rfl <| en_nil <| en_then <| en_seq <| en_seq <| en_region <| en_det (opT_move rfl) rfl <| en_det (opT_neq_f rfl rfl (by omega)) rfl <| en_det (opT_move rfl) rfl <| en_g_yes rfl rfl <| en_det (opT_move rfl) rfl <| en_g_yes rfl rfl <| en_det (opT_move rfl) rfl <| en_g_yes rfl rfl <| en_det (opT_eql_t rfl rfl (by omega)) rfl <| en_g_yes rfl rfl <| en_det (opT_neB rfl rfl) rfl <| ?_
    first | refine en_det (opT_pick_t rfl rfl) rfl ?_ | refine en_det (opT_pick_f rfl rfl) rfl ?_
    refine en_det (opT_move rfl) rfl <| en_g_yes rfl rfl <| en_det (opT_move rfl) rfl <| en_g_yes rfl rfl <| en_det (opT_neq_f rfl rfl (by omega)) rfl <| en_g_yes rfl rfl <| en_det (opT_move rfl) rfl <| en_g_no rfl rfl rfl <| en_g_no rfl rfl rfl <| en_g_yes rfl rfl <| ?_
    first | refine en_det (opT_pick_t rfl rfl) rfl ?_ | refine en_det (opT_pick_f rfl rfl) rfl ?_
    first | refine en_det (opT_pick_t rfl rfl) rfl ?_ | refine en_det (opT_pick_f rfl rfl) rfl ?_
    refine en_nil <| en_then <| en_cond_f rfl <| en_skip <| en_then <| en_seq <| en_region <| en_det (opT_makeFunc rfl rfl) rfl <| en_det (opT_assign rfl) rfl <| en_nil <| en_then <| en_seq <| en_seq <| en_region <| en_det (opT_move rfl) rfl <| en_det (opT_eql_t rfl rfl (by omega)) rfl <| en_nil <| en_then <| en_cond_t rfl <| en_seq <| en_region <| en_det (opT_move rfl) rfl <| en_det (opT_move rfl) rfl <| ?_
    refine en_call cW0 rfl rfl rfl rfl fun v h6 Γ' s6 hv => ?_
    obtain ⟨rfl, rfl⟩ := hv
    refine en_norm ?_
    refine en_det (opT_move rfl) rfl <| en_det (opT_extract rfl rfl) rfl <| en_det (opT_extract rfl rfl) rfl <| en_det (opT_assign rfl) rfl <| en_det (opT_assign rfl) rfl <| en_nil <| en_then <| en_seq <| en_region <| en_det (opT_move rfl) rfl <| ?_
    first | refine en_det (opT_not_t rfl) rfl ?_ | refine en_det (opT_not_f rfl) rfl ?_ | refine en_det (opT_not rfl) rfl ?_
    refine en_det (opT_move rfl) rfl <| en_g_yes rfl rfl <| en_det (opT_move rfl) rfl <| en_g_yes rfl rfl <| ?_
    first | refine en_det (opT_not_t rfl) rfl ?_ | refine en_det (opT_not_f rfl) rfl ?_ | refine en_det (opT_not rfl) rfl ?_
    first | refine en_det (opT_pick_t rfl rfl) rfl ?_ | refine en_det (opT_pick_f rfl rfl) rfl ?_
    refine en_nil <| en_then <| en_cond_f rfl <| en_skip <| en_then <| en_seq <| en_seq <| en_region <| en_det (opT_move rfl) rfl <| en_nil <| en_then <| en_block <| ?_
    refine en_loop (fun x : Nat × Heap => x.1 ≤ 6 ∧ h6.sub x.2) (fun x => [(5, pt b5), (6, pt c2), (7, pt b7), (8, (.slice fad (natsI (fewB b left).1).length fcp)), (9, .int .i64 0), (12, .func (.func 17) #[] #[pt b5, pt b7]), (69, .int .i64 x.1)]) (fun x => x.2) (fun _ => [box b7 31 (trayL left), Chute c2 v2 y2.length, box b5 26 [.slice tad b.nt tcp, .slice had b.nh hcp]]) (fun x => 6 - x.1) (0, h6) ⟨by simp, .refl _⟩ ⟨rfl, rfl, rfl, rfl, rfl, rfl, rfl, trivial⟩ (.refl _) inferInstance fun x hx => ?_
    obtain ⟨k, h7⟩ := x
    obtain ⟨hk6, s7⟩ := hx
    simp only at hk6 s7
    change En _ _ _ [(5, pt b5), (6, pt c2), (7, pt b7), (8, (.slice fad (natsI (fewB b left).1).length fcp)), (9, .int .i64 0), (12, .func (.func 17) #[] #[pt b5, pt b7]), (69, .int .i64 k)] h7 [box b7 31 (trayL left), Chute c2 v2 y2.length, box b5 26 [.slice tad b.nt tcp, .slice had b.nh hcp]]
    refine en_seq <| en_region <| ?_
    first | refine en_det (opT_lss_t rfl rfl (by omega)) rfl ?_ | refine en_det (opT_lss_f rfl rfl (by omega)) rfl ?_ | refine en_det (opT_lss rfl rfl) rfl ?_
    refine en_nil <| en_then <| en_seq <| ?_
    refine en_if rfl (fun hlt1 => ?_) (fun hlt1 => ?_)
    · skip
      refine en_own_nil 3 1 ?_
      refine en_skip <| en_then <| en_seq <| en_block <| en_seq <| en_region <| en_det (opT_assign rfl) rfl <| en_nil <| en_then <| en_seq <| en_seq <| en_region <| en_det (opT_fieldAddr rfl) rfl <| en_det (opT_load_own rfl rfl) rfl <| en_det (opT_len rfl) rfl <| en_det (opT_move rfl) rfl <| en_nil <| en_then <| en_block <| ?_
      refine en_loop (fun x : Nat × (Nat → Bool) × Option Addr × Nat × Heap => x.1 ≤ b.nh ∧ h7.sub x.2.2.2.2) (fun x => [(5, pt b5), (6, pt c2), (7, pt b7), (8, (.slice fad (natsI (fewB b left).1).length fcp)), (9, .int .i64 0), (12, .func (.func 17) #[] #[pt b5, pt b7]), (69, .int .i64 k), (15, .slice x.2.2.1 ((List.range x.1).filter x.2.1).length x.2.2.2.1), (73, .int .i64 b.nh), (74, .int .i64 x.1)]) (fun x => x.2.2.2.2) (fun x => [own 3 1 (.slice x.2.2.1 ((List.range x.1).filter x.2.1).length x.2.2.2.1) ((List.range x.1).filter x.2.1).length ((natsI ((List.range x.1).filter x.2.1)).map (Value.int .i64)), box b7 31 (trayL left), Chute c2 v2 y2.length, box b5 26 [.slice tad b.nt tcp, .slice had b.nh hcp]]) (fun x => b.nh - x.1) (0, (fun _ => false), none, 0, h7) ⟨by simp, .refl _⟩ ⟨rfl, rfl, rfl, rfl, rfl, rfl, rfl, rfl, rfl, rfl, trivial⟩ (.refl _) (tkAll _) fun x hx => ?_
      obtain ⟨t, p, rad, rcp, h8⟩ := x
      obtain ⟨ht, s8⟩ := hx
      simp only at ht s8
      change En _ _ _ [(5, pt b5), (6, pt c2), (7, pt b7), (8, (.slice fad (natsI (fewB b left).1).length fcp)), (9, .int .i64 0), (12, .func (.func 17) #[] #[pt b5, pt b7]), (69, .int .i64 k), (15, .slice rad ((List.range t).filter p).length rcp), (73, .int .i64 b.nh), (74, .int .i64 t)] h8 [own 3 1 (.slice rad ((List.range t).filter p).length rcp) ((List.range t).filter p).length ((natsI ((List.range t).filter p)).map (Value.int .i64)), box b7 31 (trayL left), Chute c2 v2 y2.length, box b5 26 [.slice tad b.nt tcp, .slice had b.nh hcp]]
      have hfl := filter_len p t
      refine en_seq <| en_region <| ?_
      first | refine en_det (opT_lss_t rfl rfl (by omega)) rfl ?_ | refine en_det (opT_lss_f rfl rfl (by omega)) rfl ?_ | refine en_det (opT_lss rfl rfl) rfl ?_
      refine en_nil <| en_then <| en_seq <| ?_
      refine en_if rfl (fun hlt2 => ?_) (fun hlt2 => ?_)
      · skip
        have htk : t < b.nh := by omega
        refine en_skip <| en_then <| en_seq <| en_block <| en_seq <| en_region <| en_det (opT_move rfl) rfl <| en_det (opT_assign rfl) rfl <| en_nil <| en_then <| en_seq <| en_region <| en_det (opT_move rfl) rfl <| ?_
        refine en_callq (in18_ct h8 c2 v2 y2 2 (y25.mono (s6a.trans (s6.trans (s7.trans s8)))) (by omega)) rfl rfl rfl rfl fun v h9 s9 hv => ?_
        obtain ⟨bb, rfl⟩ := hv
        have hfs := filter_step p t bb
        skip
        cases bb with
        | true =>
          rw [if_pos rfl] at hfs
          refine en_nil <| en_then <| en_cond_t rfl <| en_region <| en_det (opT_move rfl) rfl <| en_det (opT_move rfl) rfl <| ?_
          refine en_op (opT_buildSlice (cs := [.int .i64 t]) rfl rfl (by kernel_rfl)) rfl fun _ _ _ _ ⟨b81, e1, e2, e3⟩ => ?_
          subst e1 e3; replace e2 := e2.symm; subst e2
          refine en_app1 rfl rfl rfl rfl rfl rfl rfl (by omega) fun ad82 cp82 hm82 hc82 => ?_
          refine en_det (opT_assign rfl) rfl <| en_nil <| en_blk <| en_then <| en_region <| en_det (opT_add rfl rfl (by constructor <;> omega)) rfl <| en_det (opT_move rfl) rfl <| en_nil <| en_then <| ?_
          refine en_again (t + 1, (fun i => if i = t then true else p i), ad82, cp82, h9) ⟨by simp only; omega, s8.trans s9⟩ (by simp only; omega) ⟨rfl, rfl, rfl, rfl, rfl, rfl, rfl, (by
            simp only [hfs, List.length_append, List.length_cons, List.length_nil]; rfl), rfl, gi rfl (by simp), trivial⟩ (.refl _) (by
            simp only [hfs, natsI, List.map_append, List.map_cons, List.map_nil, List.length_append, List.length_cons, List.length_nil]; exact inferInstance)
        | false =>
          simp only [Bool.false_eq_true, if_false, List.append_nil] at hfs
          refine en_nil <| en_then <| en_cond_f rfl <| en_skip <| en_blk <| en_then <| en_region <| en_det (opT_add rfl rfl (by constructor <;> omega)) rfl <| en_det (opT_move rfl) rfl <| en_nil <| en_then <| ?_
          refine en_again (t + 1, (fun i => if i = t then false else p i), rad, rcp, h9) ⟨by simp only; omega, s8.trans s9⟩ (by simp only; omega) ⟨rfl, rfl, rfl, rfl, rfl, rfl, rfl, (by simp only [hfs]; rfl), rfl, gi rfl (by simp), trivial⟩ (.refl _) (by
            simp only [hfs]; exact inferInstance)
      · skip
        obtain rfl : t = b.nh := by omega
        refine en_freeze_own fun h9 s9 hsl _ => ?_
        have hRI : IsInts h9 (.slice rad ((List.range b.nh).filter p).length rcp) (natsI ((List.range b.nh).filter p)) := by
          unfold IsInts; rw [natsI_len]; exact hsl
        have cW := with_ct h9 b5 b7 _ _ _ b left p (B5.mono (s6a.trans (s6.trans (s7.trans (s8.trans s9))))) hk hl hRI
        have hfew := hfv.mono (s6a.trans (s6.trans (s7.trans (s8.trans s9))))
        have hless := hE.less hf p
        have hn2 : (natsI (fewB b left).1).length = (fewB b left).1.length := natsI_len _
        cases hcl : cleanB b (keptD left) ((List.range b.nh).filter p) with
        | false =>
          rw [hcl] at cW
          skip
          refine en_exit <| en_then_exit <| en_then_exit <| en_blk_hit <| en_then <| en_seq <| en_region <| en_det (opT_move rfl) rfl <| en_det (opT_move rfl) rfl <| ?_
          refine en_call cW rfl rfl rfl rfl fun v h10 Γ' s10 hv => ?_
          obtain ⟨rfl, rfl⟩ := hv
          refine en_norm ?_
          refine en_det (opT_move rfl) rfl <| en_det (opT_extract rfl rfl) rfl <| en_det (opT_extract rfl rfl) rfl <| en_det (opT_assign rfl) rfl <| en_det (opT_assign rfl) rfl <| en_nil <| en_then <| en_seq <| en_region <| en_det (opT_move rfl) rfl <| ?_
          first | refine en_det (opT_not_t rfl) rfl ?_ | refine en_det (opT_not_f rfl) rfl ?_ | refine en_det (opT_not rfl) rfl ?_
          refine en_det (opT_move rfl) rfl <| en_g_yes rfl rfl <| en_det (opT_move rfl) rfl <| en_g_yes rfl rfl <| en_det (opT_move rfl) rfl <| en_g_no rfl rfl rfl <| en_g_no rfl rfl rfl <| en_g_no rfl rfl rfl <| en_g_undef rfl rfl rfl <| en_g_undef rfl rfl rfl <| en_g_undef rfl rfl rfl <| en_g_undef rfl rfl rfl <| en_g_undef rfl rfl rfl <| en_g_no rfl rfl rfl <| en_g_no rfl rfl rfl <| en_g_undef rfl rfl rfl <| en_g_undef rfl rfl rfl <| en_g_undef rfl rfl rfl <| en_g_undef rfl rfl rfl <| en_g_undef rfl rfl rfl <| en_g_undef rfl rfl rfl <| en_g_undef rfl rfl rfl <| en_g_undef rfl rfl rfl <| en_g_undef rfl rfl rfl <| en_g_undef rfl rfl rfl <| en_g_undef rfl rfl rfl <| en_g_no rfl rfl rfl <| en_g_yes rfl rfl <| ?_
          first | refine en_det (opT_pick_t rfl rfl) rfl ?_ | refine en_det (opT_pick_f rfl rfl) rfl ?_
          first | refine en_det (opT_pick_t rfl rfl) rfl ?_ | refine en_det (opT_pick_f rfl rfl) rfl ?_
          refine en_nil <| en_then <| en_cond_f rfl <| en_skip <| en_blk <| en_then <| en_region <| en_det (opT_add rfl rfl (by constructor <;> omega)) rfl <| en_det (opT_move rfl) rfl <| en_nil <| en_then <| ?_
          exact en_again (k + 1, h10) ⟨by simp only; omega, s7.trans (s8.trans (s9.trans s10))⟩ (by simp only; omega) ⟨rfl, rfl, rfl, rfl, rfl, rfl, gi rfl (by simp), trivial⟩ (.refl _) inferInstance
        | true =>
          rw [hcl] at cW
          have hnl := hless hcl
          have hL : ¬ ((List.range b.nh).filter p).length < (fewB b left).1.length := fun hh => hnl (.inl hh)
          have hC : ((List.range b.nh).filter p).length = (fewB b left).1.length → ¬ cmpD (natsI ((List.range b.nh).filter p)) (natsI (fewB b left).1) < 0 := fun h1 h2 => hnl (.inr ⟨h1, h2⟩)
          refine en_exit <| en_then_exit <| en_then_exit <| en_blk_hit <| en_then <| en_seq <| en_region <| en_det (opT_move rfl) rfl <| en_det (opT_move rfl) rfl <| ?_
          refine en_call cW rfl rfl rfl rfl fun v h10 Γ' s10 hv => ?_
          obtain ⟨rfl, rfl⟩ := hv
          refine en_norm ?_
          skip
          by_cases hlen : ((List.range b.nh).filter p).length = (fewB b left).1.length
          · have hcmp := hC hlen
            have cM := compare_ct h10 _ _ _ _ (hRI.mono s10) (hfew.mono s10)
            refine en_det (opT_move rfl) rfl <| en_det (opT_extract rfl rfl) rfl <| en_det (opT_extract rfl rfl) rfl <| en_det (opT_assign rfl) rfl <| en_det (opT_assign rfl) rfl <| en_nil <| en_then <| en_seq <| en_region <| en_det (opT_move rfl) rfl <| ?_
            first | refine en_det (opT_not_t rfl) rfl ?_ | refine en_det (opT_not_f rfl) rfl ?_ | refine en_det (opT_not rfl) rfl ?_
            refine en_det (opT_move rfl) rfl <| en_g_yes rfl rfl <| en_det (opT_move rfl) rfl <| en_g_yes rfl rfl <| en_det (opT_move rfl) rfl <| en_g_yes rfl rfl <| en_det (opT_move rfl) rfl <| en_g_yes rfl rfl <| en_det (opT_neq_f rfl rfl (by omega)) rfl <| en_g_yes rfl rfl <| en_det (opT_move rfl) rfl <| en_g_yes rfl rfl <| en_det (opT_move rfl) rfl <| en_g_yes rfl rfl <| en_det (opT_len rfl) rfl <| en_g_yes rfl rfl <| en_det (opT_move rfl) rfl <| en_g_yes rfl rfl <| en_det (opT_len rfl) rfl <| en_g_yes rfl rfl <| en_det (opT_lss_f rfl rfl (by omega)) rfl <| en_g_yes rfl rfl <| ?_
            first | refine en_det (opT_pick_t rfl rfl) rfl ?_ | refine en_det (opT_pick_f rfl rfl) rfl ?_
            refine en_g_yes rfl rfl <| en_det (opT_move rfl) rfl <| en_g_yes rfl rfl <| en_det (opT_move rfl) rfl <| en_g_yes rfl rfl <| en_det (opT_len rfl) rfl <| en_g_yes rfl rfl <| en_det (opT_move rfl) rfl <| en_g_yes rfl rfl <| en_det (opT_len rfl) rfl <| en_g_yes rfl rfl <| en_det (opT_eql_t rfl rfl (by omega)) rfl <| en_g_yes rfl rfl <| en_det (opT_move rfl) rfl <| en_g_yes rfl rfl <| en_det (opT_move rfl) rfl <| en_g_yes rfl rfl <| en_det (opT_move rfl) rfl <| en_g_yes rfl rfl <| en_calld (cM) rfl rfl rfl rfl <| en_g_yes rfl rfl <| en_det (opT_lss_f rfl rfl (by omega)) rfl <| en_g_yes rfl rfl <| ?_
            first | refine en_det (opT_pick_t rfl rfl) rfl ?_ | refine en_det (opT_pick_f rfl rfl) rfl ?_
            refine en_g_yes rfl rfl <| ?_
            first | refine en_det (opT_pick_t rfl rfl) rfl ?_ | refine en_det (opT_pick_f rfl rfl) rfl ?_
            refine en_g_yes rfl rfl <| ?_
            first | refine en_det (opT_pick_t rfl rfl) rfl ?_ | refine en_det (opT_pick_f rfl rfl) rfl ?_
            first | refine en_det (opT_pick_t rfl rfl) rfl ?_ | refine en_det (opT_pick_f rfl rfl) rfl ?_
            refine en_nil <| en_then <| en_cond_f rfl <| en_skip <| en_blk <| en_then <| en_region <| en_det (opT_add rfl rfl (by constructor <;> omega)) rfl <| en_det (opT_move rfl) rfl <| en_nil <| en_then <| ?_
            exact en_again (k + 1, h10) ⟨by simp only; omega, s7.trans (s8.trans (s9.trans s10))⟩ (by simp only; omega) ⟨rfl, rfl, rfl, rfl, rfl, rfl, gi rfl (by simp), trivial⟩ (.refl _) inferInstance
          · skip
            refine en_det (opT_move rfl) rfl <| en_det (opT_extract rfl rfl) rfl <| en_det (opT_extract rfl rfl) rfl <| en_det (opT_assign rfl) rfl <| en_det (opT_assign rfl) rfl <| en_nil <| en_then <| en_seq <| en_region <| en_det (opT_move rfl) rfl <| ?_
            first | refine en_det (opT_not_t rfl) rfl ?_ | refine en_det (opT_not_f rfl) rfl ?_ | refine en_det (opT_not rfl) rfl ?_
            refine en_det (opT_move rfl) rfl <| en_g_yes rfl rfl <| en_det (opT_move rfl) rfl <| en_g_yes rfl rfl <| en_det (opT_move rfl) rfl <| en_g_yes rfl rfl <| en_det (opT_move rfl) rfl <| en_g_yes rfl rfl <| en_det (opT_neq_f rfl rfl (by omega)) rfl <| en_g_yes rfl rfl <| en_det (opT_move rfl) rfl <| en_g_yes rfl rfl <| en_det (opT_move rfl) rfl <| en_g_yes rfl rfl <| en_det (opT_len rfl) rfl <| en_g_yes rfl rfl <| en_det (opT_move rfl) rfl <| en_g_yes rfl rfl <| en_det (opT_len rfl) rfl <| en_g_yes rfl rfl <| en_det (opT_lss_f rfl rfl (by omega)) rfl <| en_g_yes rfl rfl <| ?_
            first | refine en_det (opT_pick_t rfl rfl) rfl ?_ | refine en_det (opT_pick_f rfl rfl) rfl ?_
            refine en_g_yes rfl rfl <| en_det (opT_move rfl) rfl <| en_g_yes rfl rfl <| en_det (opT_move rfl) rfl <| en_g_yes rfl rfl <| en_det (opT_len rfl) rfl <| en_g_yes rfl rfl <| en_det (opT_move rfl) rfl <| en_g_yes rfl rfl <| en_det (opT_len rfl) rfl <| en_g_yes rfl rfl <| en_det (opT_eql_f rfl rfl (by omega)) rfl <| en_g_yes rfl rfl <| en_det (opT_move rfl) rfl <| en_g_no rfl rfl rfl <| en_g_no rfl rfl rfl <| en_g_no rfl rfl rfl <| en_g_no rfl rfl rfl <| en_g_yes rfl rfl <| ?_
            first | refine en_det (opT_pick_t rfl rfl) rfl ?_ | refine en_det (opT_pick_f rfl rfl) rfl ?_
            refine en_g_yes rfl rfl <| ?_
            first | refine en_det (opT_pick_t rfl rfl) rfl ?_ | refine en_det (opT_pick_f rfl rfl) rfl ?_
            refine en_g_yes rfl rfl <| ?_
            first | refine en_det (opT_pick_t rfl rfl) rfl ?_ | refine en_det (opT_pick_f rfl rfl) rfl ?_
            first | refine en_det (opT_pick_t rfl rfl) rfl ?_ | refine en_det (opT_pick_f rfl rfl) rfl ?_
            refine en_nil <| en_then <| en_cond_f rfl <| en_skip <| en_blk <| en_then <| en_region <| en_det (opT_add rfl rfl (by constructor <;> omega)) rfl <| en_det (opT_move rfl) rfl <| en_nil <| en_then <| ?_
            exact en_again (k + 1, h10) ⟨by simp only; omega, s7.trans (s8.trans (s9.trans s10))⟩ (by simp only; omega) ⟨rfl, rfl, rfl, rfl, rfl, rfl, gi rfl (by simp), trivial⟩ (.refl _) inferInstance
    · skip
      refine en_exit <| en_then_exit <| en_then_exit <| en_blk_hit <| en_then <| en_seq <| en_region <| ?_
      refine en_call (awake_ct h7) rfl rfl rfl rfl fun v h8 Γ' s8 hv => ?_
      obtain ⟨rfl, rfl⟩ := hv
      refine en_norm ?_
      refine en_det (opT_assign rfl) rfl <| en_nil <| en_then <| en_ret <| ?_
      refine en_return (rs := [.tmp 4]) rfl (.cons (.tmp rfl) .nil) (s1.trans (s2.trans (s3.trans (s4.trans (s5.trans (s6a.trans (s6.trans (s7.trans s8)))))))) (Γ1 := []) ⟨rfl, rfl⟩
end Go.Sx

/- The law BeltMore: the walk, its first half. -/
namespace Go.Sx
open Go.Proofs
set_option maxRecDepth 100000
section
variable {n : Nat} {Φ : Fr} {Tt : Act → World → Prop} {ρ : Env} {h : Heap} {Γ : List HP}
/-- The array behind an owned slice, what it has beyond included; and back. -/
theorem en_own_box {T : TypeId} {sz m cp : Nat} {ad : Option Addr} {xs : List Value} (hm : 0 < m)
    (H : ∀ b tail, ad = some ⟨b, 0, none⟩ → (xs ++ tail).length = cp * sz → xs.length = m * sz → En n Φ Tt ρ h (box b T (xs ++ tail) :: Γ)) : En n Φ Tt ρ h (own T sz (.slice ad m cp) m xs :: Γ) :=
  en_of_own hm fun b cap cs hv hmc hc hl ht => by
    cases hv
    have hx : xs.length = m * sz := by rw [← ht, List.length_take, hl]; exact Nat.min_eq_left (Nat.mul_le_mul_right _ hmc)
    have e : cs = xs ++ cs.drop (m * sz) := by rw [← ht]; exact (List.take_append_drop _ _).symm
    have := H b (cs.drop (m * sz)) rfl (by rw [← e]; exact hl) hx
    rw [← e] at this; exact this
theorem en_box_own {T : TypeId} {sz m cp b : Nat} {xs tail : List Value} (hm : m ≤ cp) (hc : cp ≤ 9223372036854775807) (hl : (xs ++ tail).length = cp * sz) (hx : xs.length = m * sz)
    (H : En n Φ Tt ρ h (own T sz (.slice (some ⟨b, 0, none⟩) m cp) m xs :: Γ)) : En n Φ Tt ρ h (box b T (xs ++ tail) :: Γ) :=
  en_to_own sz m cp hm hc hl (by rw [← hx, List.take_left]; exact H)
end
theorem app_get {xs tail : List Value} {j : Nat} {v : Value} (h : xs[j]? = some v) : (xs ++ tail)[j]? = some v := by
  rw [List.getElem?_append_left (List.getElem?_eq_some_iff.1 h).1]; exact h
theorem rows_app_set {n w : Nat} {f : Nat → Nat → Value} {tail : List Value} {i j : Nat} (hi : i < n) (hj : j < w) (v : Value) : (rows n w f ++ tail).set (i * w + j) v = rows n w (fun a b => if a = i ∧ b = j then v else f a b) ++ tail := by
  rw [List.set_append_left _ _ (by rw [rows_length]; exact row_lt hi hj), rows_set hj]
theorem mostA_bound {b : BeltD} (hk : BOK b) : 0 ≤ mostA b ∧ mostA b ≤ 1600 := by
  have h := sumN_bound (n := b.nt) (f := mostT b) (B := 200) fun i _ => mostT_bound hk i
  have := hk.n8
  show 0 ≤ sumN b.nt (mostT b) ∧ sumN b.nt (mostT b) ≤ 1600
  have e : (200 : Int) * (b.nt : Int) ≤ 1600 := by omega
  omega
def addTr (b : BeltD) (a : Nat → Nat → Int) : Nat → Nat → Int := fun i m => b.tray i m + a i m
/-- What is added, so far. -/
structure AInv (nt t m : Nat) (a : Nat → Nat → Int) (added : Int) : Prop where
  r : ∀ i j, 0 ≤ a i j ∧ a i j ≤ 3
  z : ∀ i j, (t < i ∨ (i = t ∧ m ≤ j)) → a i j = 0
  s : added = sumA nt a
theorem AInv.start (nt : Nat) : AInv nt 0 0 (fun _ _ => 0) 0 := ⟨fun _ _ => by simp, fun _ _ _ => rfl, by unfold sumA sum5; rw [show (fun i : Nat => sumN 5 fun _ => (0 : Int)) = fun _ => 0 by funext i; exact sumN_zero 5, sumN_zero]⟩
theorem AInv.next {nt t m : Nat} {a : Nat → Nat → Int} {x : Int} (h : AInv nt t m a x) (h5 : 5 ≤ m) : AInv nt (t + 1) 0 a x := ⟨h.r, fun i j hx => h.z i j (by omega), h.s⟩
theorem AInv.add {nt t m : Nat} {a : Nat → Nat → Int} {x k : Int} (h : AInv nt t m a x) (ht : t < nt) (hm : m < 5) (h0 : 0 ≤ k) (h3 : k ≤ 3) : AInv nt t (m + 1) (upd2 a t m k) (x + k) := by
  have hz := h.z t m (.inr ⟨rfl, Nat.le_refl _⟩)
  refine ⟨fun i j => ?_, fun i j hx => ?_, ?_⟩
  · unfold upd2
    split
    · exact ⟨h0, h3⟩
    · exact h.r i j
  · unfold upd2
    split
    · omega
    · exact h.z i j (by omega)
  · rw [h.s]
    unfold sumA
    refine (sumN_upd (f := fun i => sum5 (a i)) (g := fun i => sum5 (upd2 a t m k i)) (i := t) (d := k) ht (fun j _ hj => by show sum5 (upd2 a t m k j) = _; rw [upd2_row_ne hj]) ?_).symm
    show sum5 (upd2 a t m k t) = sum5 (a t) + k
    unfold sum5
    exact sumN_upd hm (fun j _ hj => by simp [upd2, hj]) (by simp [upd2, hz])
theorem addTr_set (b : BeltD) (a : Nat → Nat → Int) (t m : Nat) (k : Int) (hz : a t m = 0) : (fun x y => if x = t ∧ y = m then Value.int .i64 (addTr b a t m + k) else icell (addTr b a) x y) = icell (addTr b (upd2 a t m k)) := by
  funext x y
  unfold icell addTr upd2
  by_cases e : x = t ∧ y = m
  · obtain ⟨rfl, rfl⟩ := e; simp [hz]
  · simp [e]
theorem addT_ok {b : BeltD} {T H : Int} (hM : MadeB b T H) (hT : T ≤ 8) (hH : H ≤ 5) {a : Nat → Nat → Int} (ha : ∀ i j, 0 ≤ a i j ∧ a i j ≤ 3) : BOK (addT b a) := by
  have hk := hM.ok hT hH
  exact ⟨hk.n1, hk.n8, hk.h5, fun i m hi hm => by have h1 := hM.tr i m hi hm; have h2 := ha i m; show 0 ≤ b.tray i m + a i m ∧ b.tray i m + a i m ≤ 60; omega, hk.ok, hk.sl, hk.re, hk.ri⟩
def tk3 (a c : Bool) : Nat → Bool := fun m => if m = 0 then true else if m = 1 then a else if m = 2 then c else false
def btab (tvs hvs : Nat → Value) : Nat → Nat → Value := fun i j => if j = 0 then tvs i else hvs i
def BeltsP (b : BeltD) (left : Nat → Int) (h : Heap) (k : Nat) (tvs hvs : Nat → Value) : Prop := ∀ i, i < k → ∃ o, IsBelt h (.agg #[tvs i, hvs i]) o ∧ Better b o left
theorem BeltsP.mono {b : BeltD} {left : Nat → Int} {h h' : Heap} (s : h.sub h') {k : Nat} {tvs hvs : Nat → Value} (x : BeltsP b left h k tvs hvs) : BeltsP b left h' k tvs hvs := fun i hi => by
  obtain ⟨o, a, c⟩ := x i hi; exact ⟨o, a.mono s, c⟩
theorem belts_snoc (k : Nat) (tvs hvs : Nat → Value) (tv hv : Value) : rows k 2 (btab tvs hvs) ++ [tv, hv] = rows (k + 1) 2 (btab (fun i => if i = k then tv else tvs i) (fun i => if i = k then hv else hvs i)) := by
  rw [rows_succ]
  congr 1
  · refine rows_congr fun i j hi _ => ?_
    have : i ≠ k := by omega
    simp [btab, this]
  · show [tv, hv] = row 2 _
    simp [row, btab, List.range_succ]
theorem BeltsP.snoc {b : BeltD} {left : Nat → Int} {h : Heap} {k : Nat} {tvs hvs : Nat → Value} (x : BeltsP b left h k tvs hvs) {tv hv : Value} {o : BeltD} (ho : IsBelt h (.agg #[tv, hv]) o) (hb : Better b o left) : BeltsP b left h (k + 1) (fun i => if i = k then tv else tvs i) (fun i => if i = k then hv else hvs i) := fun i hi => by
  by_cases e : i = k
  · subst e; simp only [if_true]; exact ⟨o, ho, hb⟩
  · simp only [e, if_false]; exact x i (by omega)
theorem hands_set (H : Nat → HandD) (rv : Nat → Value) (k c : Nat) (v : Value) (x : HandD) (hx : ∀ j, hcell x (rv k) j = if j = c then v else hcell (H k) (rv k) j) : (fun a j => if a = k ∧ j = c then v else hcell (H a) (rv a) j) = fun a => hcell ((fun i => if i = k then x else H i) a) (rv a) := by
  funext a j
  by_cases e : a = k
  · subst e
    simp only [if_true, true_and]
    rw [hx]
  · simp [e]
theorem hcell_str (H : HandD) (r : Value) (s : Int) (j : Nat) : hcell { H with str := s } r j = if j = 5 then .int .i64 s else hcell H r j := by
  unfold hcell
  by_cases e : j = 5
  · subst e; simp
  · simp [e]
theorem hcell_tire (H : HandD) (r : Value) (s : Int) (j : Nat) : hcell { H with tire := s } r j = if j = 6 then .int .i64 s else hcell H r j := by
  unfold hcell
  by_cases e : j = 6
  · subst e; simp
  · simp [e]
theorem hcell_take (H : HandD) (r : Value) (m : Nat) (hm : m < 5) (s : Bool) (j : Nat) : hcell { H with takes := fun c => if c = m then s else H.takes c } r j = if j = m then .bool s else hcell H r j := by
  unfold hcell
  by_cases e : j = m
  · subst e; simp [hm]
  · simp [e]
attribute [local irreducible] Code.wpIn wpListIn Exit.then Exit.inBlock BQ Again Hd St En OpT box blk RQ BQ0 fmap own Desk Chute
theorem more_ct (h : Heap) (v1 v2 : Value) (y1 y2 : List Int) (w : Int) (hy1 : IsBytes h v1 y1) (hy2 : IsBytes h v2 y2) (hw : 0 ≤ w ∧ w ≤ 255) : CT Try.prog 4 [v1, v2, .int .u8 w] h [] (DetW (.bool true) []) := by
  refine ct_intro Try.func4 rfl rfl rfl rfl fun Φ => ?_
  refine en_seq <| en_region <| en_det (opT_assign rfl) rfl <| en_nil <| en_then <| en_seq <| en_region <| en_det (opT_move rfl) rfl <| ?_
  refine en_call (fill_ct h v1 y1 hy1) rfl rfl rfl rfl fun v h1 Γ' s1 hv => ?_
  obtain ⟨c1, rfl, rfl⟩ := hv
  refine en_norm ?_
  refine en_det (opT_move rfl) rfl <| ?_
  refine en_call (fill_ct h1 v2 y2 (hy2.mono s1)) rfl rfl rfl rfl fun v h2 Γ' s2 hv => ?_
  obtain ⟨c2, rfl, rfl⟩ := hv
  refine en_norm ?_
  have z1 := hy1.mono (s1.trans s2)
  have z2 := hy2.mono (s1.trans s2)
  refine en_det (opT_assign rfl) rfl <| en_det (opT_assign rfl) rfl <| en_nil <| en_then <| en_seq <| en_region <| en_det (opT_move rfl) rfl <| ?_
  refine en_callq (made_ct h2 c1 v1 y1 5 4 z1 (by omega) (by omega) (by omega) (by omega)) rfl rfl rfl rfl fun v h3 s3 hv => ?_
  obtain ⟨b, hB, hM⟩ := hv
  have hk := hM.ok (by omega) (by omega)
  have hk5 := hk.h5
  have hn1 := hk.n1
  have hn8 := hk.n8
  obtain ⟨tv, hv, rfl, ⟨tl, tad, tcp, rfl, tq⟩, ⟨rv, ⟨hl0, had, hcp, rfl, hq⟩, hr⟩⟩ := id hB
  clear tl tq hl0 hq hr
  refine en_alloc rfl fun b9 => ?_
  refine en_det0 (opT_storeW rfl rfl rfl rfl (by simp [Value.oneCell'])) <| en_nil <| en_then <| en_seq <| en_region <| en_det (opT_move rfl) rfl <| ?_
  refine en_callq (piled_ct h3 c1 v1 y1 10 (z1.mono s3) (by omega) (by omega)) rfl rfl rfl rfl fun v h4 s4 hv => ?_
  obtain ⟨left, rfl, hleft⟩ := hv
  have hl : piecesD left = true := piecesD_iff.2 fun m hm => by have := hleft m hm; omega
  have hz := kept_ok hk hl
  have B4 := hB.mono s4
  have hc0 : checkD b = 0 := check_ok.2 hk
  have hnb := mostA_bound hk
  refine en_alloc rfl fun b10 => ?_
  refine en_det0 (opT_storeW rfl rfl rfl rfl (one_trayL _)) <| en_nil <| en_then <| en_seq <| en_region <| ?_
  first | refine en_det (opT_loadW_own rfl rfl) rfl ?_ | refine en_det (opT_loadA_own rfl) rfl ?_
  refine en_call (most21_ct h4 _ _ b B4) rfl rfl rfl rfl fun v h5 Γ' s5 hv => ?_
  obtain ⟨rfl, ⟨_, lv, rfl, _⟩ | ⟨hne, _⟩⟩ := hv
  case inr => exact absurd hc0 hne
  refine en_norm ?_
  have B5 := B4.mono s5
  have cC := clean16_ct h5 _ _ b left B5
  rw [hz, if_pos rfl] at cC
  refine en_det (opT_move rfl) rfl <| en_det (opT_extract rfl rfl) rfl <| en_det (opT_extract rfl rfl) rfl <| en_det (opT_extract rfl rfl) rfl <| en_det (opT_assign rfl) rfl <| en_det (opT_assign rfl) rfl <| en_det (opT_assign rfl) rfl <| en_nil <| en_then <| en_seq <| en_region <| ?_
  first | refine en_det (opT_loadW_own rfl rfl) rfl ?_ | refine en_det (opT_loadA_own rfl) rfl ?_
  refine en_det (opT_loadW_own rfl (row_length _ _)) rfl <| ?_
  refine en_call cC rfl rfl rfl rfl fun v h6 Γ' s6 hv => ?_
  obtain ⟨rfl, rfl⟩ := hv
  refine en_norm ?_
  have B6 := B5.mono s6
  have z6 := z2.mono (s3.trans (s4.trans (s5.trans s6)))
  clear B4 B5 cC
  refine en_det (opT_move rfl) rfl <| en_det (opT_extract rfl rfl) rfl <| en_det (opT_extract rfl rfl) rfl <| en_det (opT_assign rfl) rfl <| en_det (opT_assign rfl) rfl <| en_nil <| en_then <| en_seq <| en_seq <| en_region <| en_det (opT_move rfl) rfl <| en_det (opT_neq_f rfl rfl (by omega)) rfl <| en_det (opT_move rfl) rfl <| en_g_yes rfl rfl <| en_det (opT_move rfl) rfl <| en_g_yes rfl rfl <| en_det (opT_neq_f rfl rfl (by omega)) rfl <| ?_
  first | refine en_det (opT_pick_t rfl rfl) rfl ?_ | refine en_det (opT_pick_f rfl rfl) rfl ?_
  refine en_nil <| en_then <| en_cond_f rfl <| en_skip <| en_then <| en_seq <| en_region <| ?_
  first | refine en_det (opT_loadW_own rfl rfl) rfl ?_ | refine en_det (opT_loadA_own rfl) rfl ?_
  refine en_call (clone_ct h6 _ b B6 hk.small) rfl rfl rfl rfl fun v h7 Γ' s7 hv => ?_
  obtain ⟨fad, ftc, fha, fhc, frv, rfl, hfr, rfl⟩ := hv
  refine en_norm ?_
  refine en_keep [own 31 5 (.slice fad b.nt ftc) b.nt (rows b.nt 5 (icell b.tray)), own 41 9 (.slice fha b.nh fhc) b.nh (rows b.nh 9 fun i => hcell (b.hand i) (frv i)), box b10 31 (trayL left), box b9 26 [.slice tad b.nt tcp, .slice had b.nh hcp], Chute c2 v2 y2.length] ?_
  refine en_alloc rfl fun b16 => ?_
  refine en_det0 (opT_storeW rfl rfl rfl rfl (by simp [Value.oneCell'])) <| en_nil <| en_then <| en_seq <| en_region <| en_det (opT_assign rfl) rfl <| en_nil <| en_then <| en_seq <| en_seq <| en_region <| en_det (opT_fieldAddr rfl) rfl <| en_det (opT_load_own rfl rfl) rfl <| en_det (opT_len rfl) rfl <| en_det (opT_move rfl) rfl <| en_nil <| en_then <| en_block <| ?_
  refine en_pick (own 31 5 (.slice fad b.nt ftc) b.nt (rows b.nt 5 (icell b.tray))) ?_
  refine en_own_shape fun _ _ e17 hfc1 hfc2 _ => ?_
  cases e17
  refine en_own_box (by omega) fun fb tail efad htl hrl => ?_
  subst efad
  have htab : rows b.nt 5 (icell b.tray) = rows b.nt 5 (icell (addTr b fun _ _ => 0)) := by
    refine rows_congr fun i j _ _ => ?_
    simp [icell, addTr]
  rw [htab]
  rw [List.length_append, rows_length] at htl
  clear htab hrl
  refine en_loop (fun x : Nat × (Nat → Nat → Int) × Int × Heap => x.1 ≤ b.nt ∧ h7.sub x.2.2.2 ∧ AInv b.nt x.1 0 x.2.1 x.2.2.1 ∧ 0 ≤ x.2.2.1 ∧ x.2.2.1 ≤ 15 * x.1) (fun x => [(2, .int .u8 w), (8, pt c2), (9, pt b9), (10, pt b10), (12, .int .i64 (mostA b)), (14, .bool (cleanB b (keptD left) (allH b))), (16, pt b16), (17, .int .i64 x.2.2.1), (67, .int .i64 b.nt), (68, .int .i64 x.1)]) (fun x => x.2.2.2) (fun x => [box fb 31 (rows b.nt 5 (icell (addTr b x.2.1)) ++ tail), box b16 26 [.slice (some ⟨fb, 0, none⟩) b.nt ftc, .slice fha b.nh fhc], own 41 9 (.slice fha b.nh fhc) b.nh (rows b.nh 9 fun i => hcell (b.hand i) (frv i)), box b10 31 (trayL left), box b9 26 [.slice tad b.nt tcp, .slice had b.nh hcp], Chute c2 v2 y2.length]) (fun x => b.nt - x.1) (0, (fun _ _ => 0), 0, h7) ⟨by simp, .refl _, AInv.start _, by simp, by simp⟩ ⟨rfl, rfl, rfl, rfl, rfl, rfl, rfl, rfl, rfl, rfl, trivial⟩ (.refl _) (tkAll _) fun x hx => ?_
  obtain ⟨t, a, ad, h8⟩ := x
  obtain ⟨ht, s8, hA, had0, had1⟩ := hx
  simp only at ht s8 hA had0 had1
  change En _ _ _ [(2, .int .u8 w), (8, pt c2), (9, pt b9), (10, pt b10), (12, .int .i64 (mostA b)), (14, .bool (cleanB b (keptD left) (allH b))), (16, pt b16), (17, .int .i64 ad), (67, .int .i64 b.nt), (68, .int .i64 t)] h8 [box fb 31 (rows b.nt 5 (icell (addTr b a)) ++ tail), box b16 26 [.slice (some ⟨fb, 0, none⟩) b.nt ftc, .slice fha b.nh fhc], own 41 9 (.slice fha b.nh fhc) b.nh (rows b.nh 9 fun i => hcell (b.hand i) (frv i)), box b10 31 (trayL left), box b9 26 [.slice tad b.nt tcp, .slice had b.nh hcp], Chute c2 v2 y2.length]
  refine en_seq <| en_region <| ?_
  first | refine en_det (opT_lss_t rfl rfl (by omega)) rfl ?_ | refine en_det (opT_lss_f rfl rfl (by omega)) rfl ?_ | refine en_det (opT_lss rfl rfl) rfl ?_
  refine en_nil <| en_then <| en_seq <| ?_
  refine en_if rfl (fun hlt1 => ?_) (fun hlt1 => ?_)
  · skip
    have htn : t < b.nt := by omega
    refine en_skip <| en_then <| en_seq <| en_block <| en_seq <| en_region <| en_det (opT_move rfl) rfl <| en_det (opT_assign rfl) rfl <| en_nil <| en_then <| en_seq <| en_region <| en_det (opT_move rfl) rfl <| en_nil <| en_then <| en_block <| ?_
    refine en_loop (fun x : Nat × (Nat → Nat → Int) × Int × Heap => x.1 ≤ 5 ∧ h8.sub x.2.2.2 ∧ AInv b.nt t x.1 x.2.1 x.2.2.1 ∧ 0 ≤ x.2.2.1 ∧ x.2.2.1 ≤ 15 * t + 3 * x.1) (fun x => [(2, .int .u8 w), (8, pt c2), (9, pt b9), (10, pt b10), (12, .int .i64 (mostA b)), (14, .bool (cleanB b (keptD left) (allH b))), (16, pt b16), (17, .int .i64 x.2.2.1), (67, .int .i64 b.nt), (68, .int .i64 t), (18, .int .i64 t), (71, .int .i64 x.1)]) (fun x => x.2.2.2) (fun x => [box fb 31 (rows b.nt 5 (icell (addTr b x.2.1)) ++ tail), box b16 26 [.slice (some ⟨fb, 0, none⟩) b.nt ftc, .slice fha b.nh fhc], own 41 9 (.slice fha b.nh fhc) b.nh (rows b.nh 9 fun i => hcell (b.hand i) (frv i)), box b10 31 (trayL left), box b9 26 [.slice tad b.nt tcp, .slice had b.nh hcp], Chute c2 v2 y2.length]) (fun x => 5 - x.1) (0, a, ad, h8) ⟨by simp, .refl _, hA, had0, by simp only; omega⟩ ⟨rfl, rfl, rfl, rfl, rfl, rfl, rfl, rfl, rfl, rfl, rfl, rfl, trivial⟩ (.refl _) (tkAll _) fun x hx => ?_
    obtain ⟨m, a, ad, h9⟩ := x
    obtain ⟨hm, s9, hA, had0, had1⟩ := hx
    simp only at hm s9 hA had0 had1
    change En _ _ _ [(2, .int .u8 w), (8, pt c2), (9, pt b9), (10, pt b10), (12, .int .i64 (mostA b)), (14, .bool (cleanB b (keptD left) (allH b))), (16, pt b16), (17, .int .i64 ad), (67, .int .i64 b.nt), (68, .int .i64 t), (18, .int .i64 t), (71, .int .i64 m)] h9 [box fb 31 (rows b.nt 5 (icell (addTr b a)) ++ tail), box b16 26 [.slice (some ⟨fb, 0, none⟩) b.nt ftc, .slice fha b.nh fhc], own 41 9 (.slice fha b.nh fhc) b.nh (rows b.nh 9 fun i => hcell (b.hand i) (frv i)), box b10 31 (trayL left), box b9 26 [.slice tad b.nt tcp, .slice had b.nh hcp], Chute c2 v2 y2.length]
    refine en_seq <| en_region <| ?_
    first | refine en_det (opT_lss_t rfl rfl (by omega)) rfl ?_ | refine en_det (opT_lss_f rfl rfl (by omega)) rfl ?_ | refine en_det (opT_lss rfl rfl) rfl ?_
    refine en_nil <| en_then <| en_seq <| ?_
    refine en_if rfl (fun hlt2 => ?_) (fun hlt2 => ?_)
    · skip
      have hm5 : m < 5 := by omega
      refine en_skip <| en_then <| en_seq <| en_block <| en_seq <| en_region <| en_det (opT_move rfl) rfl <| en_det (opT_assign rfl) rfl <| en_nil <| en_then <| en_seq <| en_region <| en_det (opT_move rfl) rfl <| ?_
      refine en_callq (pull_ct h9 c2 v2 y2 4 (z6.mono (s7.trans (s8.trans s9))) (by omega)) rfl rfl rfl rfl fun v h10 s10 hv => ?_
      obtain ⟨k, rfl, hk0, _, hk2⟩ := hv
      replace hk2 := hk2 (by omega)
      have hcell : (rows b.nt 5 (icell (addTr b a)) ++ tail)[t * 5 + m]? = some (.int .i64 (addTr b a t m)) := app_get (rows_get htn hm5)
      have hz0 := hA.z t m (.inr ⟨rfl, Nat.le_refl _⟩)
      have htr := hM.tr t m htn hm5
      have hval : 0 ≤ addTr b a t m ∧ addTr b a t m ≤ 14 := by unfold addTr; omega
      have hoff := row_lt htn hm5
      have hset := addTr_set b a t m k hz0
      generalize hX : addTr b a t m = X at hcell hval hset
      refine en_det (opT_assign rfl) rfl <| en_nil <| en_then <| en_seq <| en_draw0 [0, 1, 2, 3, 4, 5, 6, 7, 8, 9, 10, 11] (by kernel_rfl) (by decide +kernel) (by decide +kernel) (by decide) <| dp_p rfl (fun _ _ => opT_fieldAddr rfl) rfl rfl rfl <| dp_q rfl (opT_load_own rfl rfl) rfl rfl rfl <| dp_p rfl (fun _ _ => opT_move rfl) rfl rfl rfl <| dp_p rfl (fun _ _ => opT_move rfl) rfl rfl rfl <| ?_
      first | refine dp_p rfl (fun _ _ => opT_idx1 rfl rfl (by omega) (by omega)) rfl rfl rfl ?_ | refine dp_p rfl (fun _ _ => opT_idx (ks := 0) rfl rfl (by omega) (by omega)) rfl rfl rfl ?_
      refine dp_p rfl (fun _ _ => opT_idxArr rfl rfl (by omega) (by omega)) rfl rfl rfl <| dp_q rfl (opT_load_own (v := .int .i64 X) rfl hcell) rfl rfl rfl <| dp_p rfl (fun _ _ => opT_move rfl) rfl rfl rfl <| dp_p rfl (fun _ _ => opT_add rfl rfl (by constructor <;> omega)) rfl rfl rfl <| ?_
      first | refine dp_p rfl (fun _ _ => opT_idx1 rfl rfl (by omega) (by omega)) rfl rfl rfl ?_ | refine dp_p rfl (fun _ _ => opT_idx (ks := 0) rfl rfl (by omega) (by omega)) rfl rfl rfl ?_
      refine dp_p rfl (fun _ _ => opT_idxArr rfl rfl (by omega) (by omega)) rfl rfl rfl <| dp_td0 rfl (opT_store1s rfl rfl rfl (by rw [List.length_append, rows_length]; omega)) rfl rfl rfl rfl rfl <| dp_done0 <| en_then <| en_region <| en_det (opT_move rfl) rfl <| en_det (opT_move rfl) rfl <| en_det (opT_add rfl rfl (by constructor <;> omega)) rfl <| en_det (opT_assign rfl) rfl <| en_nil <| en_blk <| en_then <| en_region <| en_det (opT_add rfl rfl (by constructor <;> omega)) rfl <| en_det (opT_move rfl) rfl <| en_nil <| en_then <| ?_
      rw [rows_app_set htn hm5, hset]
      exact en_again (m + 1, upd2 a t m k, ad + k, h10) ⟨by simp only; omega, s9.trans s10, hA.add htn hm5 hk0 (by omega), by simp only; omega, by simp only; omega⟩ (by simp only; omega) ⟨rfl, rfl, rfl, rfl, rfl, rfl, rfl, rfl, rfl, rfl, rfl, gi rfl (by simp), trivial⟩ (.refl _) inferInstance
    · skip
      refine en_exit <| en_then_exit <| en_then_exit <| en_blk_hit <| en_blk <| en_then <| en_region <| en_det (opT_add rfl rfl (by constructor <;> omega)) rfl <| en_det (opT_move rfl) rfl <| en_nil <| en_then <| ?_
      exact en_again (t + 1, a, ad, h9) ⟨by simp only; omega, s8.trans s9, hA.next (by omega), by simp only; omega, by simp only; omega⟩ (by simp only; omega) ⟨rfl, rfl, rfl, rfl, rfl, rfl, rfl, rfl, rfl, gi rfl (by simp), trivial⟩ (.refl _) inferInstance
  · skip
    obtain rfl : t = b.nt := by omega
    have hko := addT_ok hM (by omega) (by omega) hA.r
    have hmm := most_more hk hko fun i j _ _ => (hA.r i j).1
    rw [← hA.s] at hmm
    have hnf := mostA_bound hko
    refine en_box_own hfc1 hfc2 (by rw [List.length_append, rows_length]; exact htl) (rows_length _ _ _) ?_
    refine en_freeze_own fun h9 s9 hsl _ => ?_
    refine en_pick (own 41 9 (.slice fha b.nh fhc) b.nh (rows b.nh 9 fun i => hcell (b.hand i) (frv i))) ?_
    refine en_freeze_own fun h10 s10 hsh _ => ?_
    have hBf : IsBelt h10 (.agg #[.slice (some ⟨fb, 0, none⟩) b.nt ftc, .slice fha b.nh fhc]) (addT b a) := ⟨_, _, rfl, SlH.mono s10 hsl, frv, hsh, fun i hi => (hfr i hi).mono (s8.trans (s9.trans s10))⟩
    have hcf : checkD (addT b a) = 0 := check_ok.2 hko
    refine en_exit <| en_then_exit <| en_then_exit <| en_blk_hit <| en_then <| en_seq <| en_seq <| en_region <| ?_
    first | refine en_det (opT_loadW_own rfl rfl) rfl ?_ | refine en_det (opT_loadA_own rfl) rfl ?_
    refine en_call (most21_ct h10 _ _ (addT b a) hBf) rfl rfl rfl rfl fun v h11 Γ' s11 hv => ?_
    obtain ⟨rfl, ⟨_, lv', rfl, _⟩ | ⟨hne, _⟩⟩ := hv
    case inr => exact absurd hcf hne
    refine en_norm ?_
    refine en_keep [box b10 31 (trayL left), box b9 26 [.slice tad b.nt tcp, .slice had b.nh hcp], Chute c2 v2 y2.length] ?_
    have s711 := s7.trans (s8.trans (s9.trans (s10.trans s11)))
    have B11 := B6.mono s711
    have z11 := z6.mono s711
    refine en_det (opT_move rfl) rfl <| en_det (opT_extract rfl rfl) rfl <| en_det (opT_extract rfl rfl) rfl <| en_det (opT_extract rfl rfl) rfl <| en_det (opT_assign rfl) rfl <| en_det (opT_assign rfl) rfl <| en_det (opT_assign rfl) rfl <| en_nil <| en_then <| en_seq <| en_region <| en_det (opT_move rfl) rfl <| en_det (opT_neq_f rfl rfl (by omega)) rfl <| en_det (opT_move rfl) rfl <| en_g_yes rfl rfl <| en_det (opT_move rfl) rfl <| en_g_yes rfl rfl <| en_det (opT_move rfl) rfl <| en_g_yes rfl rfl <| en_det (opT_lss_f rfl rfl (by omega)) rfl <| ?_
    first | refine en_det (opT_pick_t rfl rfl) rfl ?_ | refine en_det (opT_pick_f rfl rfl) rfl ?_
    refine en_det (opT_move rfl) rfl <| en_g_yes rfl rfl <| en_det (opT_move rfl) rfl <| en_g_yes rfl rfl <| en_det (opT_move rfl) rfl <| en_g_yes rfl rfl <| en_det (opT_move rfl) rfl <| en_g_yes rfl rfl <| en_det (opT_add rfl rfl (by constructor <;> omega)) rfl <| en_g_yes rfl rfl <| en_det (opT_gtr_f rfl rfl (by omega)) rfl <| ?_
    first | refine en_det (opT_pick_t rfl rfl) rfl ?_ | refine en_det (opT_pick_f rfl rfl) rfl ?_
    refine en_nil <| en_then <| en_cond_f rfl <| en_skip <| en_then <| en_seq <| en_region <| ?_
    first | refine en_det (opT_loadW_own rfl rfl) rfl ?_ | refine en_det (opT_loadA_own rfl) rfl ?_
    refine en_call (clone_ct h11 _ b B11 hk.small) rfl rfl rfl rfl fun v h12 Γ' s12 hv => ?_
    obtain ⟨gad, gtc, gha, ghc, grv, rfl, hgr, rfl⟩ := hv
    refine en_norm ?_
    have z12 := z11.mono s12
    refine en_alloc rfl fun b24 => ?_
    refine en_det0 (opT_storeW rfl rfl rfl rfl (by simp [Value.oneCell'])) <| ?_
    refine en_nil <| en_then <| en_seq <| en_draw0 [0, 1, 2, 4, 7, 3, 5, 6, 8, 9, 10, 11, 12, 13] (by kernel_rfl) (by decide +kernel) (by decide +kernel) (by decide) <| dp_p rfl (fun _ _ => opT_fieldAddr rfl) rfl rfl rfl <| dp_q rfl (opT_load_own (v := .slice gha b.nh ghc) rfl rfl) rfl rfl rfl <| dp_p rfl (fun _ _ => opT_move rfl) rfl rfl rfl <| dp_p rfl (fun _ _ => opT_move rfl) rfl rfl rfl <| dp_p rfl (fun _ _ => opT_move rfl) rfl rfl rfl <| ?_
    refine dp_callq (in18_ct h12 c2 v2 y2 2 z12 (by omega)) rfl rfl rfl rfl rfl rfl rfl fun v h13 s13 hv => ?_; obtain ⟨q1, rfl⟩ := hv
    refine dp_callq (in18_ct h13 c2 v2 y2 2 (z12.mono s13) (by omega)) rfl rfl rfl rfl rfl rfl rfl fun v h14 s14 hv => ?_; obtain ⟨q2, rfl⟩ := hv
    refine dp_p rfl (fun _ _ => opT_build (cs := [.bool true, .bool q1, .bool q2, .bool false, .bool false]) rfl (by kernel_rfl)) rfl rfl rfl <| ?_
    refine dp_callq (pull_ct h14 c2 v2 y2 20 (z12.mono (s13.trans s14)) (by omega)) rfl rfl rfl rfl rfl rfl rfl fun v h15 s15 hv => ?_; obtain ⟨q3, rfl, hq0, _, hq2⟩ := hv
    refine dp_p rfl (fun _ _ => opT_build (cs := handL ⟨tk3 q1 q2, q3, 0, 0, []⟩ nilS) rfl (by kernel_rfl)) rfl rfl rfl <| ?_
    refine dp_box rfl (opT_buildSlice (cs := handL ⟨tk3 q1 q2, q3, 0, 0, []⟩ nilS) rfl rfl (by kernel_rfl)) rfl rfl rfl rfl fun b124 => ?_
    refine dp_tn rfl (opT_shape (opT_app1 rfl rfl rfl rfl rfl rfl (by omega))) rfl rfl rfl rfl rfl fun v125 _ _ _ hv125 => ?_; obtain ⟨ad125, cp125, rfl, hm125, hc125, e1, rfl⟩ := hv125; replace e1 := e1.symm; subst e1
    refine dp_p rfl (fun _ _ => opT_fieldAddr rfl) rfl rfl rfl <| dp_td0 rfl (opT_store1 rfl rfl rfl) rfl rfl rfl rfl rfl <| dp_done0 <| ?_
    replace hq2 := hq2 (by omega)
    have hx : OKX b.nt ⟨tk3 q1 q2, q3, 0, 0, []⟩ := ⟨⟨hq0, by simp only; omega, by simp, by simp⟩, by simp, fun j hj => by simp at hj, rfl⟩
    have hbt := far_better left hk (by have := hM.nH; omega) hx
    rw [hands_snoc]
    refine en_freeze_own fun h16 s16 hgh _ => ?_
    refine en_pick (own 31 5 (.slice gad b.nt gtc) b.nt (rows b.nt 5 (icell b.tray))) ?_
    refine en_freeze_own fun h17 s17 hgt _ => ?_
    have hBg : IsBelt h17 (.agg #[.slice gad b.nt gtc, .slice ad125 (b.nh + 1) cp125]) (farB b ⟨tk3 q1 q2, q3, 0, 0, []⟩) := ⟨_, _, rfl, hgt, _, SlH.mono s17 hgh, fun i hi => by
      show IsInts h17 (if i = b.nh then nilS else grv i) (if i = b.nh then (⟨tk3 q1 q2, q3, 0, 0, []⟩ : HandD) else b.hand i).rests
      split
      · exact SlH.nil _ _
      · exact (hgr i (by have : i < b.nh + 1 := hi; omega)).mono (s13.trans (s14.trans (s15.trans (s16.trans s17))))⟩
    have s1217 := s12.trans (s13.trans (s14.trans (s15.trans (s16.trans s17))))
    have B17 := B11.mono s1217
    have z17 := z11.mono s1217
    refine en_then <| en_seq <| en_region <| ?_
    first | refine en_det (opT_loadW_own rfl rfl) rfl ?_ | refine en_det (opT_loadA_own rfl) rfl ?_
    refine en_op (opT_buildSlice (cs := [.slice gad b.nt gtc, .slice ad125 (b.nh + 1) cp125]) rfl rfl (by kernel_rfl)) rfl fun _ _ _ _ ⟨b128, e1, e2, e3⟩ => ?_
    subst e1 e3; replace e2 := e2.symm; subst e2
    refine en_det (opT_assign rfl) rfl <| en_nil <| en_then <| ?_
    refine en_keep [box b128 26 [.slice gad b.nt gtc, .slice ad125 (b.nh + 1) cp125], box b10 31 (trayL left), box b9 26 [.slice tad b.nt tcp, .slice had b.nh hcp], Chute c2 v2 y2.length] ?_
    refine en_to_own 2 1 1 (by omega) (by omega) rfl ?_
    rw [show (List.take (1 * 2) [Value.slice gad b.nt gtc, .slice ad125 (b.nh + 1) cp125]) = rows 1 2 (btab (fun _ => .slice gad b.nt gtc) (fun _ => .slice ad125 (b.nh + 1) cp125)) from rfl]
    have hP17 : BeltsP b left h17 1 (fun _ => .slice gad b.nt gtc) (fun _ => .slice ad125 (b.nh + 1) cp125) := fun i hi => ⟨_, hBg, hbt⟩
    clear hgt hgh hBg
    refine en_meet (ι := Nat × (Nat → Value) × (Nat → Value) × Option Addr × Nat × Heap) (fun x => x.1 ≤ 4 ∧ h17.sub x.2.2.2.2.2 ∧ BeltsP b left x.2.2.2.2.2 x.1 x.2.1 x.2.2.1) (fun x => [(10, pt b10), (12, .int .i64 (mostA b)), (14, .bool (cleanB b (keptD left) (allH b))), (25, .slice x.2.2.2.1 x.1 x.2.2.2.2.1)]) (fun x => x.2.2.2.2.2) (fun x => [own 26 2 (.slice x.2.2.2.1 x.1 x.2.2.2.2.1) x.1 (rows x.1 2 (btab x.2.1 x.2.2.1)), box b10 31 (trayL left), box b9 26 [.slice tad b.nt tcp, .slice had b.nh hcp], Chute c2 v2 y2.length]) ?_ (fun x hx => ?_)
    · skip
      skip
      by_cases hnh : 0 < b.nh
      · have hr0 : 0 ≤ w % (b.nh : Int) := Int.emod_nonneg _ (by omega)
        have hr1 : w % (b.nh : Int) < b.nh := Int.emod_lt_of_pos _ (by omega)
        obtain ⟨i0, hi0⟩ := Int.eq_ofNat_of_zero_le hr0
        rw [hi0] at hr1
        have hin : i0 < b.nh := by omega
        have hXk := hk.okx hin
        have hMh := hM.hands i0 hin
        refine en_seq <| en_region <| en_det (opT_fieldAddr rfl) rfl <| en_det (opT_load_own rfl rfl) rfl <| en_det (opT_len rfl) rfl <| en_det (opT_gtr_t rfl rfl (by omega)) rfl <| en_nil <| en_then <| en_cond_t rfl <| en_seq <| en_region <| en_det (opT_move rfl) rfl <| en_det (opT_conv rfl (wrap_i64 (by constructor <;> omega))) rfl <| en_det (opT_fieldAddr rfl) rfl <| en_det (opT_load_own rfl rfl) rfl <| en_det (opT_len rfl) rfl <| en_det ((hi0 ▸ opT_remk rfl rfl (by omega) (by omega))) rfl <| en_det (opT_assign rfl) rfl <| en_nil <| en_then <| en_seq <| en_region <| en_det (opT_move rfl) rfl <| en_nil <| en_then <| en_block <| ?_
        refine en_loop (fun x : Nat × (Nat → Value) × (Nat → Value) × Option Addr × Nat × Heap => 1 ≤ x.1 ∧ x.1 ≤ 4 ∧ h17.sub x.2.2.2.2.2 ∧ BeltsP b left x.2.2.2.2.2 x.1 x.2.1 x.2.2.1) (fun x => [(8, pt c2), (9, pt b9), (26, .int .i64 i0), (10, pt b10), (12, .int .i64 (mostA b)), (14, .bool (cleanB b (keptD left) (allH b))), (25, .slice x.2.2.2.1 x.1 x.2.2.2.2.1), (139, .int .i64 (x.1 - 1))]) (fun x => x.2.2.2.2.2) (fun x => [own 26 2 (.slice x.2.2.2.1 x.1 x.2.2.2.2.1) x.1 (rows x.1 2 (btab x.2.1 x.2.2.1)), box b10 31 (trayL left), box b9 26 [.slice tad b.nt tcp, .slice had b.nh hcp], Chute c2 v2 y2.length]) (fun x => 4 - x.1) (1, (fun _ => .slice gad b.nt gtc), (fun _ => .slice ad125 (b.nh + 1) cp125), some ⟨b128, 0, none⟩, 1, h17) ⟨by simp, by simp, .refl _, hP17⟩ ⟨rfl, rfl, rfl, rfl, rfl, rfl, rfl, rfl, trivial⟩ (.refl _) (tkAll _) fun x hx => ?_
        obtain ⟨k, tvs, hvs, ad, cp, h18⟩ := x
        obtain ⟨hk1, hk4, s18, hP⟩ := hx
        simp only at hk1 hk4 s18 hP
        change En _ _ _ [(8, pt c2), (9, pt b9), (26, .int .i64 i0), (10, pt b10), (12, .int .i64 (mostA b)), (14, .bool (cleanB b (keptD left) (allH b))), (25, .slice ad k cp), (139, .int .i64 (k - 1))] h18 [own 26 2 (.slice ad k cp) k (rows k 2 (btab tvs hvs)), box b10 31 (trayL left), box b9 26 [.slice tad b.nt tcp, .slice had b.nh hcp], Chute c2 v2 y2.length]
        refine en_seq <| en_region <| ?_
        first | refine en_det (opT_lss_t rfl rfl (by omega)) rfl ?_ | refine en_det (opT_lss_f rfl rfl (by omega)) rfl ?_ | refine en_det (opT_lss rfl rfl) rfl ?_
        refine en_nil <| en_then <| en_seq <| ?_
        refine en_if rfl (fun hlt3 => ?_) (fun hlt3 => ?_)
        · skip
          have hk3 : k < 4 := by omega
          refine en_skip <| en_then <| en_seq <| en_block <| en_seq <| en_region <| en_det (opT_move rfl) rfl <| en_det (opT_assign rfl) rfl <| en_nil <| en_then <| en_seq <| en_region <| ?_
          first | refine en_det (opT_loadW_own rfl rfl) rfl ?_ | refine en_det (opT_loadA_own rfl) rfl ?_
          refine en_call (clone_ct h18 _ b (B17.mono s18) hk.small) rfl rfl rfl rfl fun v h19 Γ' s19 hv => ?_
          obtain ⟨oad, otc, oha, ohc, orv, rfl, hor, rfl⟩ := hv
          refine en_norm ?_
          have z19 := z17.mono (s18.trans s19)
          refine en_alloc rfl fun b28 => ?_
          refine en_det0 (opT_storeW rfl rfl rfl rfl (by simp [Value.oneCell'])) <| ?_
          refine en_pick (own 41 9 (.slice oha b.nh ohc) b.nh (rows b.nh 9 fun i => hcell (b.hand i) (orv i))) ?_
          refine en_own_shape fun _ _ e17 hoc1 hoc2 _ => ?_
          cases e17
          refine en_own_box (by omega) fun ob otail eoad hotl _ => ?_
          subst eoad
          rw [List.length_append, rows_length] at hotl
          have hg5 : (rows b.nh 9 (fun i => hcell (b.hand i) (orv i)) ++ otail)[i0 * 9 + 5]? = some (.int .i64 (b.hand i0).str) := app_get (rows_get hin (by omega))
          have hg6 : (rows b.nh 9 (fun i => hcell (b.hand i) (orv i)) ++ otail)[i0 * 9 + 6]? = some (.int .i64 (b.hand i0).tire) := app_get (rows_get hin (by omega))
          have hlen : ∀ c, c < 9 → i0 * 9 + c < (rows b.nh 9 (fun i => hcell (b.hand i) (orv i)) ++ otail).length := fun c hc => by
            have := row_lt hin hc
            rw [List.length_append, rows_length]; omega
          have hl0 := hlen 0 (by omega)
          have hl5 := hlen 5 (by omega)
          have hl6 := hlen 6 (by omega)
          have hms := hMh.str
          have hmt := hMh.tire
          skip
          have hk123 : k = 1 ∨ k = 2 ∨ k = 3 := by omega
          rcases hk123 with hke | hke | hke
          · refine en_nil <| en_then <| en_seq <| en_region <| en_det (opT_fieldAddr rfl) rfl <| en_det (opT_load_own rfl rfl) rfl <| en_det (opT_move rfl) rfl <| ?_
            first | refine en_det (opT_idx1 rfl rfl (by omega) (by omega)) rfl ?_ | refine en_det (opT_idx (ks := 0) rfl rfl (by omega) (by omega)) rfl ?_
            refine en_det (opT_assign rfl) rfl <| en_nil <| en_then <| en_seq <| en_seq <| en_region <| en_det (opT_move rfl) rfl <| en_nil <| en_then <| en_block <| en_seq <| en_region <| en_det (opT_eql_t rfl rfl (by omega)) rfl <| en_det (opT_assign rfl) rfl <| en_nil <| en_then <| en_cond_t rfl <| en_draw0 [0, 1, 2, 3, 4, 5, 6, 7, 8, 9, 10, 11] (by kernel_rfl) (by decide +kernel) (by decide +kernel) (by decide) <| dp_p rfl (fun _ _ => opT_move rfl) rfl rfl rfl <| dp_p rfl (fun _ _ => opT_move rfl) rfl rfl rfl <| dp_p rfl (fun _ _ => opT_nilCheck_p rfl) rfl rfl rfl <| dp_p rfl (fun _ _ => opT_fieldAddr rfl) rfl rfl rfl <| dp_q rfl (opT_load_own (v := .int .i64 (b.hand i0).str) rfl hg5) rfl rfl rfl <| dp_p rfl (fun _ _ => opT_move rfl) rfl rfl rfl <| ?_
            refine dp_callq (pull_ct h19 c2 v2 y2 9 z19 (by omega)) rfl rfl rfl rfl rfl rfl rfl fun v h20 s20 hv => ?_; obtain ⟨r, rfl, hr0', _, hr2'⟩ := hv; replace hr2' := hr2' (by omega)
            refine dp_p rfl (fun _ _ => opT_add rfl rfl (by constructor <;> omega)) rfl rfl rfl <| dp_p rfl (fun _ _ => opT_min2 rfl rfl) rfl rfl rfl <| dp_p rfl (fun _ _ => opT_nilCheck_p rfl) rfl rfl rfl <| dp_p rfl (fun _ _ => opT_fieldAddr rfl) rfl rfl rfl <| dp_td0 rfl (opT_store1s rfl rfl rfl (by omega)) rfl rfl rfl rfl rfl <| dp_done0 <| ?_
            rw [rows_app_set hin (by omega), hands_set _ _ i0 5 _ { b.hand i0 with str := min 40 ((b.hand i0).str + r) } (hcell_str _ _ _)]
            have hbo : Better b (setB b i0 { b.hand i0 with str := min 40 ((b.hand i0).str + r) }) left := set_better left hk ⟨⟨by simp only; omega, by simp only; omega, hXk.ok.t0, hXk.ok.t1⟩, hXk.sl, hXk.re, hXk.ri⟩ rfl (by simp only; omega) (Int.le_refl _) fun _ _ h => h
            refine en_pick (box ob 41 (rows b.nh 9 (fun a => hcell ((fun i => if i = i0 then { b.hand i0 with str := min 40 ((b.hand i0).str + r) } else b.hand i) a) (orv a)) ++ otail)) ?_
            refine en_box_own hoc1 hoc2 (by rw [List.length_append, rows_length]; exact hotl) (rows_length _ _ _) ?_
            refine en_freeze_own fun h21 s21 hsh _ => ?_
            refine en_pick (own 31 5 (.slice oad b.nt otc) b.nt (rows b.nt 5 (icell b.tray))) ?_
            refine en_freeze_own fun h22 s22 hst _ => ?_
            have hBo : IsBelt h22 (.agg #[.slice oad b.nt otc, .slice (some ⟨ob, 0, none⟩) b.nh ohc]) (setB b i0 { b.hand i0 with str := min 40 ((b.hand i0).str + r) }) := ⟨_, _, rfl, hst, orv, SlH.mono s22 hsh, fun i hi => by
              have h0 := (hor i hi).mono (s20.trans (s21.trans s22))
              show IsInts h22 (orv i) (if i = i0 then { b.hand i0 with str := min 40 ((b.hand i0).str + r) } else b.hand i).rests
              split
              · rename_i e; subst e; exact h0
              · exact h0⟩
            have hsx := s19.trans (s20.trans (s21.trans s22))
            refine en_keep [own 26 2 (.slice ad k cp) k (rows k 2 (btab tvs hvs)), box b28 26 [.slice oad b.nt otc, .slice (some ⟨ob, 0, none⟩) b.nh ohc], box b10 31 (trayL left), box b9 26 [.slice tad b.nt tcp, .slice had b.nh hcp], Chute c2 v2 y2.length] ?_
            refine en_blk <| en_then <| en_region <| en_det (opT_move rfl) rfl <| ?_
            first | refine en_det (opT_loadW_own rfl rfl) rfl ?_ | refine en_det (opT_loadA_own rfl) rfl ?_
            refine en_op (opT_buildSlice (cs := [.slice oad b.nt otc, .slice (some ⟨ob, 0, none⟩) b.nh ohc]) rfl rfl (by kernel_rfl)) rfl fun _ _ _ _ ⟨b182, e1, e2, e3⟩ => ?_
            subst e1 e3; replace e2 := e2.symm; subst e2
            refine en_app1 rfl rfl rfl rfl rfl rfl rfl (by omega) fun ad183 cp183 hm183 hc183 => ?_
            refine en_det (opT_assign rfl) rfl <| en_nil <| en_blk <| en_then <| en_region <| en_det (opT_add rfl rfl (by constructor <;> omega)) rfl <| en_det (opT_move rfl) rfl <| en_nil <| en_then <| ?_
            rw [belts_snoc]
            exact en_again (k + 1, (fun i => if i = k then .slice oad b.nt otc else tvs i), (fun i => if i = k then .slice (some ⟨ob, 0, none⟩) b.nh ohc else hvs i), ad183, cp183, h22) ⟨by simp only; omega, by simp only; omega, s18.trans hsx, (hP.mono hsx).snoc hBo hbo⟩ (by simp only; omega) ⟨rfl, rfl, rfl, rfl, rfl, rfl, rfl, gi rfl (by simp only; omega), trivial⟩ (.refl _) inferInstance
          · skip
            refine en_nil <| en_then <| en_seq <| en_region <| en_det (opT_fieldAddr rfl) rfl <| en_det (opT_load_own rfl rfl) rfl <| en_det (opT_move rfl) rfl <| ?_
            first | refine en_det (opT_idx1 rfl rfl (by omega) (by omega)) rfl ?_ | refine en_det (opT_idx (ks := 0) rfl rfl (by omega) (by omega)) rfl ?_
            refine en_det (opT_assign rfl) rfl <| en_nil <| en_then <| en_seq <| en_seq <| en_region <| en_det (opT_move rfl) rfl <| en_nil <| en_then <| en_block <| en_seq <| en_region <| en_det (opT_eql_f rfl rfl (by omega)) rfl <| en_det (opT_assign rfl) rfl <| en_nil <| en_then <| en_cond_f rfl <| en_seq <| en_region <| en_det (opT_eql_t rfl rfl (by omega)) rfl <| en_det (opT_assign rfl) rfl <| en_nil <| en_then <| en_cond_t rfl <| en_region <| en_det (opT_move rfl) rfl <| en_det (opT_move rfl) rfl <| en_det (opT_move rfl) rfl <| en_det (opT_nilCheck_p rfl) rfl <| en_det (opT_fieldAddr rfl) rfl <| en_det (opT_load_own (v := .int .i64 (b.hand i0).tire) rfl hg6) rfl <| en_det (opT_add rfl rfl (by constructor <;> omega)) rfl <| ?_
            refine en_callq (pull_ct h19 c2 v2 y2 ((b.hand i0).tire + 1) z19 (by omega)) rfl rfl rfl rfl fun v h20 s20 hv => ?_
            obtain ⟨r, rfl, hr0', hr1', hr2'⟩ := hv
            have hrt : r ≤ (b.hand i0).tire := by
              by_cases e : (b.hand i0).tire + 1 < 2
              · have := hr1' e; omega
              · have := hr2' (by omega); omega
            refine en_det (opT_nilCheck_p rfl) rfl <| en_det (opT_fieldAddr rfl) rfl <| en_det0 (opT_store1s rfl rfl rfl (by omega)) <| ?_
            rw [rows_app_set hin (by omega), hands_set _ _ i0 6 _ { b.hand i0 with tire := r } (hcell_tire _ _ _)]
            have hbo : Better b (setB b i0 { b.hand i0 with tire := r }) left := set_better left hk ⟨⟨hXk.ok.s0, hXk.ok.s1, hr0', by simp only; omega⟩, hXk.sl, hXk.re, hXk.ri⟩ rfl (Int.le_refl _) hrt fun _ _ h => h
            refine en_pick (box ob 41 (rows b.nh 9 (fun a => hcell ((fun i => if i = i0 then { b.hand i0 with tire := r } else b.hand i) a) (orv a)) ++ otail)) ?_
            refine en_box_own hoc1 hoc2 (by rw [List.length_append, rows_length]; exact hotl) (rows_length _ _ _) ?_
            refine en_freeze_own fun h21 s21 hsh _ => ?_
            refine en_pick (own 31 5 (.slice oad b.nt otc) b.nt (rows b.nt 5 (icell b.tray))) ?_
            refine en_freeze_own fun h22 s22 hst _ => ?_
            have hBo : IsBelt h22 (.agg #[.slice oad b.nt otc, .slice (some ⟨ob, 0, none⟩) b.nh ohc]) (setB b i0 { b.hand i0 with tire := r }) := ⟨_, _, rfl, hst, orv, SlH.mono s22 hsh, fun i hi => by
              have h0 := (hor i hi).mono (s20.trans (s21.trans s22))
              show IsInts h22 (orv i) (if i = i0 then { b.hand i0 with tire := r } else b.hand i).rests
              split
              · rename_i e; subst e; exact h0
              · exact h0⟩
            have hsx := s19.trans (s20.trans (s21.trans s22))
            refine en_keep [own 26 2 (.slice ad k cp) k (rows k 2 (btab tvs hvs)), box b28 26 [.slice oad b.nt otc, .slice (some ⟨ob, 0, none⟩) b.nh ohc], box b10 31 (trayL left), box b9 26 [.slice tad b.nt tcp, .slice had b.nh hcp], Chute c2 v2 y2.length] ?_
            refine en_nil <| en_blk <| en_then <| en_region <| en_det (opT_move rfl) rfl <| ?_
            first | refine en_det (opT_loadW_own rfl rfl) rfl ?_ | refine en_det (opT_loadA_own rfl) rfl ?_
            refine en_op (opT_buildSlice (cs := [.slice oad b.nt otc, .slice (some ⟨ob, 0, none⟩) b.nh ohc]) rfl rfl (by kernel_rfl)) rfl fun _ _ _ _ ⟨b182, e1, e2, e3⟩ => ?_
            subst e1 e3; replace e2 := e2.symm; subst e2
            refine en_app1 rfl rfl rfl rfl rfl rfl rfl (by omega) fun ad183 cp183 hm183 hc183 => ?_
            refine en_det (opT_assign rfl) rfl <| en_nil <| en_blk <| en_then <| en_region <| en_det (opT_add rfl rfl (by constructor <;> omega)) rfl <| en_det (opT_move rfl) rfl <| en_nil <| en_then <| ?_
            rw [belts_snoc]
            exact en_again (k + 1, (fun i => if i = k then .slice oad b.nt otc else tvs i), (fun i => if i = k then .slice (some ⟨ob, 0, none⟩) b.nh ohc else hvs i), ad183, cp183, h22) ⟨by simp only; omega, by simp only; omega, s18.trans hsx, (hP.mono hsx).snoc hBo hbo⟩ (by simp only; omega) ⟨rfl, rfl, rfl, rfl, rfl, rfl, rfl, gi rfl (by simp only; omega), trivial⟩ (.refl _) inferInstance
          · skip
            refine en_nil <| en_then <| en_seq <| en_region <| en_det (opT_fieldAddr rfl) rfl <| en_det (opT_load_own rfl rfl) rfl <| en_det (opT_move rfl) rfl <| ?_
            first | refine en_det (opT_idx1 rfl rfl (by omega) (by omega)) rfl ?_ | refine en_det (opT_idx (ks := 0) rfl rfl (by omega) (by omega)) rfl ?_
            refine en_det (opT_assign rfl) rfl <| en_nil <| en_then <| en_seq <| en_seq <| en_region <| en_det (opT_move rfl) rfl <| en_nil <| en_then <| en_block <| en_seq <| en_region <| en_det (opT_eql_f rfl rfl (by omega)) rfl <| en_det (opT_assign rfl) rfl <| en_nil <| en_then <| en_cond_f rfl <| en_seq <| en_region <| en_det (opT_eql_f rfl rfl (by omega)) rfl <| en_det (opT_assign rfl) rfl <| en_nil <| en_then <| en_cond_f rfl <| en_draw0 [0, 1, 3, 4, 2, 5, 6] (by kernel_rfl) (by decide +kernel) (by decide +kernel) (by decide) <| dp_p rfl (fun _ _ => opT_move rfl) rfl rfl rfl <| dp_p rfl (fun _ _ => opT_move rfl) rfl rfl rfl <| dp_p rfl (fun _ _ => opT_nilCheck_p rfl) rfl rfl rfl <| dp_p rfl (fun _ _ => opT_fieldAddr rfl) rfl rfl rfl <| ?_
            refine dp_callq (pull_ct h19 c2 v2 y2 5 z19 (by omega)) rfl rfl rfl rfl rfl rfl rfl fun v h20 s20 hv => ?_; obtain ⟨r0, rfl, hr0', _, hr2'⟩ := hv; replace hr2' := hr2' (by omega); obtain ⟨r, rfl⟩ := Int.eq_ofNat_of_zero_le hr0'
            refine dp_p rfl (fun _ _ => opT_idxArr rfl rfl (by omega) (by omega)) rfl rfl rfl <| dp_td0 rfl (opT_store1s rfl rfl rfl (by have := hlen r (by omega); omega)) rfl rfl rfl rfl rfl <| dp_done0 <| ?_
            rw [rows_app_set hin (by omega), hands_set _ _ i0 r _ { b.hand i0 with takes := fun c => if c = r then true else (b.hand i0).takes c } (hcell_take _ _ r (by omega) _)]
            have hbo : Better b (setB b i0 { b.hand i0 with takes := fun c => if c = r then true else (b.hand i0).takes c }) left := set_better left hk ⟨⟨hXk.ok.s0, hXk.ok.s1, hXk.ok.t0, hXk.ok.t1⟩, hXk.sl, hXk.re, hXk.ri⟩ rfl (Int.le_refl _) (Int.le_refl _) fun m _ h => by simp only; split <;> simp [h]
            refine en_pick (box ob 41 (rows b.nh 9 (fun a => hcell ((fun i => if i = i0 then { b.hand i0 with takes := fun c => if c = r then true else (b.hand i0).takes c } else b.hand i) a) (orv a)) ++ otail)) ?_
            refine en_box_own hoc1 hoc2 (by rw [List.length_append, rows_length]; exact hotl) (rows_length _ _ _) ?_
            refine en_freeze_own fun h21 s21 hsh _ => ?_
            refine en_pick (own 31 5 (.slice oad b.nt otc) b.nt (rows b.nt 5 (icell b.tray))) ?_
            refine en_freeze_own fun h22 s22 hst _ => ?_
            have hBo : IsBelt h22 (.agg #[.slice oad b.nt otc, .slice (some ⟨ob, 0, none⟩) b.nh ohc]) (setB b i0 { b.hand i0 with takes := fun c => if c = r then true else (b.hand i0).takes c }) := ⟨_, _, rfl, hst, orv, SlH.mono s22 hsh, fun i hi => by
              have h0 := (hor i hi).mono (s20.trans (s21.trans s22))
              show IsInts h22 (orv i) (if i = i0 then { b.hand i0 with takes := fun c => if c = r then true else (b.hand i0).takes c } else b.hand i).rests
              split
              · rename_i e; subst e; exact h0
              · exact h0⟩
            have hsx := s19.trans (s20.trans (s21.trans s22))
            refine en_keep [own 26 2 (.slice ad k cp) k (rows k 2 (btab tvs hvs)), box b28 26 [.slice oad b.nt otc, .slice (some ⟨ob, 0, none⟩) b.nh ohc], box b10 31 (trayL left), box b9 26 [.slice tad b.nt tcp, .slice had b.nh hcp], Chute c2 v2 y2.length] ?_
            refine en_blk <| en_then <| en_region <| en_det (opT_move rfl) rfl <| ?_
            first | refine en_det (opT_loadW_own rfl rfl) rfl ?_ | refine en_det (opT_loadA_own rfl) rfl ?_
            refine en_op (opT_buildSlice (cs := [.slice oad b.nt otc, .slice (some ⟨ob, 0, none⟩) b.nh ohc]) rfl rfl (by kernel_rfl)) rfl fun _ _ _ _ ⟨b182, e1, e2, e3⟩ => ?_
            subst e1 e3; replace e2 := e2.symm; subst e2
            refine en_app1 rfl rfl rfl rfl rfl rfl rfl (by omega) fun ad183 cp183 hm183 hc183 => ?_
            refine en_det (opT_assign rfl) rfl <| en_nil <| en_blk <| en_then <| en_region <| en_det (opT_add rfl rfl (by constructor <;> omega)) rfl <| en_det (opT_move rfl) rfl <| en_nil <| en_then <| ?_
            rw [belts_snoc]
            exact en_again (k + 1, (fun i => if i = k then .slice oad b.nt otc else tvs i), (fun i => if i = k then .slice (some ⟨ob, 0, none⟩) b.nh ohc else hvs i), ad183, cp183, h22) ⟨by simp only; omega, by simp only; omega, s18.trans hsx, (hP.mono hsx).snoc hBo hbo⟩ (by simp only; omega) ⟨rfl, rfl, rfl, rfl, rfl, rfl, rfl, gi rfl (by simp only; omega), trivial⟩ (.refl _) inferInstance
        · skip
          refine en_exit <| en_then_exit <| en_then_exit <| en_blk_hit <| en_then <| ?_
          exact en_met (k, tvs, hvs, ad, cp, h18) ⟨by simp only; omega, s18, hP⟩ ⟨rfl, rfl, rfl, rfl, trivial⟩ (.refl _) (tkAll _)
      · skip
        refine en_seq <| en_region <| en_det (opT_fieldAddr rfl) rfl <| en_det (opT_load_own rfl rfl) rfl <| en_det (opT_len rfl) rfl <| en_det (opT_gtr_f rfl rfl (by omega)) rfl <| en_nil <| en_then <| en_cond_f rfl <| en_skip <| en_then <| ?_
        exact en_met (1, (fun _ => .slice gad b.nt gtc), (fun _ => .slice ad125 (b.nh + 1) cp125), some ⟨b128, 0, none⟩, 1, h17) ⟨by simp, .refl _, hP17⟩ ⟨rfl, rfl, rfl, rfl, trivial⟩ (.refl _) (tkAll _)
    · skip
      obtain ⟨k, tvs, hvs, ad, cp, h18⟩ := x
      obtain ⟨hk4, s18, hP⟩ := hx
      simp only at hk4 s18 hP
      change En _ _ _ [(10, pt b10), (12, .int .i64 (mostA b)), (14, .bool (cleanB b (keptD left) (allH b))), (25, .slice ad k cp)] h18 [own 26 2 (.slice ad k cp) k (rows k 2 (btab tvs hvs)), box b10 31 (trayL left), box b9 26 [.slice tad b.nt tcp, .slice had b.nh hcp], Chute c2 v2 y2.length]
      refine en_freeze_own fun h19 s19 hsl _ => ?_
      have hP := hP.mono s19
      obtain ⟨_, _, _, hvv, _, _, hpc⟩ := hsl
      cases hvv
      refine en_keep [box b10 31 (trayL left)] ?_
      refine en_seq <| en_seq <| en_region <| en_det (opT_move rfl) rfl <| en_det (opT_len rfl) rfl <| en_det (opT_move rfl) rfl <| en_nil <| en_then <| en_block <| ?_
      refine en_loop (fun x : Nat × Heap => x.1 ≤ k ∧ h19.sub x.2) (fun x => [(10, pt b10), (12, .int .i64 (mostA b)), (14, .bool (cleanB b (keptD left) (allH b))), (185, .slice ad k cp), (186, .int .i64 k), (187, .int .i64 x.1)]) (fun x => x.2) (fun _ => [box b10 31 (trayL left)]) (fun x => k - x.1) (0, h19) ⟨by simp, .refl _⟩ ⟨rfl, rfl, rfl, rfl, rfl, rfl, trivial⟩ (.refl _) (tkAll _) fun x hx => ?_
      obtain ⟨j, h20⟩ := x
      obtain ⟨hj, s20⟩ := hx
      simp only at hj s20
      change En _ _ _ [(10, pt b10), (12, .int .i64 (mostA b)), (14, .bool (cleanB b (keptD left) (allH b))), (185, .slice ad k cp), (186, .int .i64 k), (187, .int .i64 j)] h20 [box b10 31 (trayL left)]
      refine en_seq <| en_region <| ?_
      first | refine en_det (opT_lss_t rfl rfl (by omega)) rfl ?_ | refine en_det (opT_lss_f rfl rfl (by omega)) rfl ?_ | refine en_det (opT_lss rfl rfl) rfl ?_
      refine en_nil <| en_then <| en_seq <| ?_
      refine en_if rfl (fun hlt9 => ?_) (fun hlt9 => ?_)
      · skip
        have hjk : j < k := by omega
        obtain ⟨o, hBo, hbo⟩ := hP j hjk
        have hBo := hBo.mono s20
        obtain ⟨bb, boff, rfl, bcells⟩ := hpc (by omega)
        have hrow : CellsH h20 bb (boff + j * 2) [tvs j, hvs j] := (bcells.row hjk).mono s20
        obtain ⟨tv', hv', e, ⟨_, oad, ocp, ht', _⟩, ⟨_, ⟨_, ohad, ohcp, hh', _⟩, _⟩⟩ := id hBo
        simp only [Value.agg.injEq, Array.mk.injEq, List.cons.injEq, and_true] at e
        obtain ⟨e1, e2⟩ := e
        rw [e1, e2, ht', hh'] at hrow hBo
        clear e1 e2 ht' hh'
        have hzo := kept_ok hbo.ok hl
        have hco : checkD o = 0 := check_ok.2 hbo.ok
        have hmo := hbo.most
        have hclo := hbo.clean
        have hno := mostA_bound hbo.ok
        refine en_skip <| en_then <| en_seq <| en_block <| en_seq <| en_region <| ?_
        first | refine en_det (opT_idx1 rfl rfl (by omega) (by omega)) rfl ?_ | refine en_det (opT_idx (ks := 0) rfl rfl (by omega) (by omega)) rfl ?_
        refine en_det (opT_loadA_h rfl hrow rfl) rfl <| en_alloc rfl fun b31 => ?_
        refine en_det0 (opT_storeW rfl rfl rfl rfl (by simp [Value.oneCell'])) <| en_nil <| en_then <| en_seq <| en_region <| ?_
        first | refine en_det (opT_loadW_own rfl rfl) rfl ?_ | refine en_det (opT_loadA_own rfl) rfl ?_
        refine en_call (most21_ct h20 _ _ o hBo) rfl rfl rfl rfl fun v h21 Γ' s21 hv => ?_
        obtain ⟨rfl, ⟨_, lv', rfl, _⟩ | ⟨hne, _⟩⟩ := hv
        case inr => exact absurd hco hne
        refine en_norm ?_
        have cO := clean16_ct h21 _ _ o left (hBo.mono s21)
        rw [hzo, if_pos rfl] at cO
        refine en_det (opT_move rfl) rfl <| en_det (opT_extract rfl rfl) rfl <| en_det (opT_extract rfl rfl) rfl <| en_det (opT_extract rfl rfl) rfl <| en_det (opT_assign rfl) rfl <| en_det (opT_assign rfl) rfl <| en_det (opT_assign rfl) rfl <| en_nil <| en_then <| en_seq <| en_region <| ?_
        first | refine en_det (opT_loadW_own rfl rfl) rfl ?_ | refine en_det (opT_loadA_own rfl) rfl ?_
        refine en_det (opT_loadW_own rfl (row_length _ _)) rfl <| ?_
        refine en_call cO rfl rfl rfl rfl fun v h22 Γ' s22 hv => ?_
        obtain ⟨rfl, rfl⟩ := hv
        refine en_norm ?_
        generalize cleanB b (keptD left) (allH b) = cb at hclo ⊢
        generalize cleanB o (keptD left) (allH o) = co at hclo ⊢
        skip
        cases cb with
        | true =>
          have := hclo rfl
          subst this
          refine en_det (opT_move rfl) rfl <| en_det (opT_extract rfl rfl) rfl <| en_det (opT_extract rfl rfl) rfl <| en_det (opT_assign rfl) rfl <| en_det (opT_assign rfl) rfl <| en_nil <| en_then <| en_seq <| en_region <| en_det (opT_move rfl) rfl <| en_det (opT_neq_f rfl rfl (by omega)) rfl <| en_det (opT_move rfl) rfl <| en_g_yes rfl rfl <| en_det (opT_move rfl) rfl <| en_g_yes rfl rfl <| en_det (opT_neq_f rfl rfl (by omega)) rfl <| ?_
          first | refine en_det (opT_pick_t rfl rfl) rfl ?_ | refine en_det (opT_pick_f rfl rfl) rfl ?_
          refine en_det (opT_move rfl) rfl <| en_g_yes rfl rfl <| en_det (opT_move rfl) rfl <| en_g_yes rfl rfl <| en_det (opT_move rfl) rfl <| en_g_yes rfl rfl <| en_det (opT_lss_f rfl rfl (by omega)) rfl <| ?_
          first | refine en_det (opT_pick_t rfl rfl) rfl ?_ | refine en_det (opT_pick_f rfl rfl) rfl ?_
          refine en_det (opT_move rfl) rfl <| en_g_yes rfl rfl <| en_det (opT_move rfl) rfl <| en_g_yes rfl rfl <| en_det (opT_move rfl) rfl <| en_g_yes rfl rfl <| en_det (opT_move rfl) rfl <| en_g_yes rfl rfl <| ?_
          first | refine en_det (opT_not_t rfl) rfl ?_ | refine en_det (opT_not_f rfl) rfl ?_ | refine en_det (opT_not rfl) rfl ?_
          refine en_g_yes rfl rfl <| ?_
          first | refine en_det (opT_pick_t rfl rfl) rfl ?_ | refine en_det (opT_pick_f rfl rfl) rfl ?_
          first | refine en_det (opT_pick_t rfl rfl) rfl ?_ | refine en_det (opT_pick_f rfl rfl) rfl ?_
          refine en_nil <| en_then <| en_cond_f rfl <| en_skip <| en_blk <| en_then <| en_region <| en_det (opT_add rfl rfl (by constructor <;> omega)) rfl <| en_det (opT_move rfl) rfl <| en_nil <| en_then <| ?_
          exact en_again (j + 1, h22) ⟨by simp only; omega, s20.trans (s21.trans s22)⟩ (by simp only; omega) ⟨rfl, rfl, rfl, rfl, rfl, gi rfl (by simp), trivial⟩ (.refl _) inferInstance
        | false =>
          refine en_det (opT_move rfl) rfl <| en_det (opT_extract rfl rfl) rfl <| en_det (opT_extract rfl rfl) rfl <| en_det (opT_assign rfl) rfl <| en_det (opT_assign rfl) rfl <| en_nil <| en_then <| en_seq <| en_region <| en_det (opT_move rfl) rfl <| en_det (opT_neq_f rfl rfl (by omega)) rfl <| en_det (opT_move rfl) rfl <| en_g_yes rfl rfl <| en_det (opT_move rfl) rfl <| en_g_yes rfl rfl <| en_det (opT_neq_f rfl rfl (by omega)) rfl <| ?_
          first | refine en_det (opT_pick_t rfl rfl) rfl ?_ | refine en_det (opT_pick_f rfl rfl) rfl ?_
          refine en_det (opT_move rfl) rfl <| en_g_yes rfl rfl <| en_det (opT_move rfl) rfl <| en_g_yes rfl rfl <| en_det (opT_move rfl) rfl <| en_g_yes rfl rfl <| en_det (opT_lss_f rfl rfl (by omega)) rfl <| ?_
          first | refine en_det (opT_pick_t rfl rfl) rfl ?_ | refine en_det (opT_pick_f rfl rfl) rfl ?_
          refine en_det (opT_move rfl) rfl <| en_g_yes rfl rfl <| en_det (opT_move rfl) rfl <| en_g_yes rfl rfl <| en_det (opT_move rfl) rfl <| en_g_no rfl rfl rfl <| en_g_no rfl rfl rfl <| en_g_yes rfl rfl <| ?_
          first | refine en_det (opT_pick_t rfl rfl) rfl ?_ | refine en_det (opT_pick_f rfl rfl) rfl ?_
          first | refine en_det (opT_pick_t rfl rfl) rfl ?_ | refine en_det (opT_pick_f rfl rfl) rfl ?_
          refine en_nil <| en_then <| en_cond_f rfl <| en_skip <| en_blk <| en_then <| en_region <| en_det (opT_add rfl rfl (by constructor <;> omega)) rfl <| en_det (opT_move rfl) rfl <| en_nil <| en_then <| ?_
          exact en_again (j + 1, h22) ⟨by simp only; omega, s20.trans (s21.trans s22)⟩ (by simp only; omega) ⟨rfl, rfl, rfl, rfl, rfl, gi rfl (by simp), trivial⟩ (.refl _) inferInstance
      · skip
        refine en_exit <| en_then_exit <| en_then_exit <| en_blk_hit <| en_then <| en_seq <| en_region <| ?_
        refine en_call (awake_ct h20) rfl rfl rfl rfl fun v h21 Γ' s21 hv => ?_
        obtain ⟨rfl, rfl⟩ := hv
        refine en_norm ?_
        refine en_det (opT_assign rfl) rfl <| en_nil <| en_then <| en_ret <| ?_
        refine en_return (rs := [.tmp 6]) rfl (.cons (.tmp rfl) .nil) (s1.trans (s2.trans (s3.trans (s4.trans (s5.trans (s6.trans (s711.trans (s1217.trans (s18.trans (s19.trans (s20.trans s21))))))))))) (Γ1 := []) ⟨rfl, rfl⟩
end Go.Sx

/- Sets out of numbers, sums of trays. -/
namespace Go.Sx
open Go.Proofs
set_option maxRecDepth 100000
attribute [local irreducible] Code.wpIn wpListIn Exit.then Exit.inBlock BQ Again Hd St En OpT box blk RQ BQ0 fmap own Desk Chute
theorem set43_ct (h : Heap) (s : Nat) (hs : s < 32) : CT Try.prog 43 [.int .i64 s] h [] (fun v h' Γ' => IsInts h' v (setI s) ∧ Γ' = []) := by
  have hset : setI s = natsI (bitsN s 5) := rfl
  rw [hset]
  refine ct_intro Try.func43 rfl rfl rfl rfl fun Φ => ?_
  refine en_own_nil 86 1 ?_
  refine en_seq <| en_region <| en_det (opT_assign rfl) rfl <| en_nil <| en_then <| en_seq <| en_region <| en_det (opT_assign rfl) rfl <| en_nil <| en_then <| en_seq <| en_seq <| en_region <| en_det (opT_move rfl) rfl <| en_nil <| en_then <| en_block <| ?_
  refine en_loop (fun x : Nat × Option Addr × Nat => x.1 ≤ 5) (fun x => [(0, .int .i64 s), (3, .slice x.2.1 (bitsN s x.1).length x.2.2), (5, .int .i64 x.1)]) (fun _ => h) (fun x => [own 86 1 (.slice x.2.1 (bitsN s x.1).length x.2.2) (bitsN s x.1).length ((natsI (bitsN s x.1)).map (Value.int .i64))]) (fun x => 5 - x.1) (0, none, 0) (by simp) ⟨rfl, rfl, rfl, trivial⟩ (.refl _) (tkAll _) fun x hx => ?_
  obtain ⟨k, ad, cp⟩ := x
  simp only at hx
  change En _ _ _ [(0, .int .i64 s), (3, .slice ad (bitsN s k).length cp), (5, .int .i64 k)] h [own 86 1 (.slice ad (bitsN s k).length cp) (bitsN s k).length ((natsI (bitsN s k)).map (Value.int .i64))]
  have hbl := bitsN_len s k
  refine en_seq <| en_region <| ?_
  first | refine en_det (opT_lss_t rfl rfl (by omega)) rfl ?_ | refine en_det (opT_lss_f rfl rfl (by omega)) rfl ?_ | refine en_det (opT_lss rfl rfl) rfl ?_
  refine en_nil <| en_then <| en_seq <| ?_
  refine en_if rfl (fun hlt => ?_) (fun hlt => ?_)
  · skip
    have hk5 : k < 5 := by omega
    have hbit := bit_of' hs hk5
    have hbs := bitsN_succ s k
    skip
    cases htb : s.testBit k with
    | true =>
      rw [htb] at hbit hbs
      simp only [if_true] at hbit hbs
      refine en_skip <| en_then <| en_seq <| en_block <| en_seq <| en_region <| en_det (opT_move rfl) rfl <| en_det (opT_assign rfl) rfl <| en_nil <| en_then <| en_seq <| en_region <| en_det (opT_move rfl) rfl <| en_det (opT_move rfl) rfl <| en_det (opT_shr rfl rfl (by omega)) rfl <| en_det ((hbit ▸ opT_and rfl rfl)) rfl <| en_det (opT_eql_t rfl rfl (by omega)) rfl <| en_nil <| en_then <| en_cond_t rfl <| en_region <| en_det (opT_move rfl) rfl <| en_det (opT_move rfl) rfl <| ?_
      refine en_op (opT_buildSlice (cs := [.int .i64 k]) rfl rfl (by kernel_rfl)) rfl fun _ _ _ _ ⟨b15, e1, e2, e3⟩ => ?_
      subst e1 e3; replace e2 := e2.symm; subst e2
      refine en_app1 rfl rfl rfl rfl rfl rfl rfl (by omega) fun ad16 cp16 hm16 hc16 => ?_
      refine en_det (opT_assign rfl) rfl <| en_nil <| en_blk <| en_then <| en_region <| en_det (opT_add rfl rfl (by constructor <;> omega)) rfl <| en_det (opT_move rfl) rfl <| en_nil <| en_then <| ?_
      refine en_again (k + 1, ad16, cp16) (by simp only; omega) (by simp only; omega) ⟨rfl, (by simp only [hbs, List.length_append, List.length_cons, List.length_nil]; rfl), gi rfl (by simp), trivial⟩ (.refl _) (by
        simp only [hbs, natsI, List.map_append, List.map_cons, List.map_nil, List.length_append, List.length_cons, List.length_nil]; exact inferInstance)
    | false =>
      rw [htb] at hbit hbs
      simp only [Bool.false_eq_true, if_false, List.append_nil] at hbit hbs
      refine en_skip <| en_then <| en_seq <| en_block <| en_seq <| en_region <| en_det (opT_move rfl) rfl <| en_det (opT_assign rfl) rfl <| en_nil <| en_then <| en_seq <| en_region <| en_det (opT_move rfl) rfl <| en_det (opT_move rfl) rfl <| en_det (opT_shr rfl rfl (by omega)) rfl <| en_det ((hbit ▸ opT_and rfl rfl)) rfl <| en_det (opT_eql_f rfl rfl (by omega)) rfl <| en_nil <| en_then <| en_cond_f rfl <| en_skip <| en_blk <| en_then <| en_region <| en_det (opT_add rfl rfl (by constructor <;> omega)) rfl <| en_det (opT_move rfl) rfl <| en_nil <| en_then <| ?_
      refine en_again (k + 1, ad, cp) (by simp only; omega) (by simp only; omega) ⟨rfl, (by simp only [hbs]; rfl), gi rfl (by simp), trivial⟩ (.refl _) (by
        simp only [hbs]; exact inferInstance)
  · skip
    obtain rfl : k = 5 := by omega
    refine en_freeze_own fun h1 s1 hsl _ => ?_
    refine en_exit <| en_then_exit <| en_then_exit <| en_blk_hit <| en_then <| en_seq <| en_region <| en_det (opT_move rfl) rfl <| en_det (opT_assign rfl) rfl <| en_nil <| en_then <| en_ret <| ?_
    refine en_return (rs := [.tmp 2]) rfl (.cons (.tmp rfl) .nil) s1 (Γ1 := []) ⟨by unfold IsInts; rw [natsI_len]; exact hsl, rfl⟩
theorem sum40_ct (h : Heap) (t : Nat → Int) (ht : ∀ m, m < 5 → 0 ≤ t m ∧ t m ≤ 1000000) : CT Try.prog 40 [.agg (trayL t).toArray] h [] (DetW (.int .i64 (sum5 t)) []) := by
  refine ct_intro Try.func40 rfl rfl rfl rfl fun Φ => ?_
  refine en_seq <| en_region <| en_box rfl rfl rfl fun b1 => en_det (opT_assign rfl) rfl <| en_nil <| en_then <| en_seq <| en_region <| en_det (opT_assign rfl) rfl <| en_nil <| en_then <| en_seq <| en_seq <| en_region <| en_det (opT_loadW_own rfl (row_length _ _)) rfl <| ?_
  refine en_det (opT_move rfl) rfl <| en_nil <| en_then <| en_block <| ?_
  refine en_loop (fun x : Nat => x ≤ 5) (fun x => [(6, .agg (trayL t).toArray), (3, .int .i64 (sumN x t)), (7, .int .i64 x)]) (fun _ => h) (fun x => []) (fun x => 5 - x) 0 (by simp) ⟨rfl, rfl, rfl, trivial⟩ (.refl _) inferInstance fun k hk => ?_
  have hb := sumN_bound (n := k) (f := t) (B := 1000000) fun i hi => ht i (by omega)
  refine en_seq <| en_region <| ?_
  first | refine en_det (opT_lss_t rfl rfl (by omega)) rfl ?_ | refine en_det (opT_lss_f rfl rfl (by omega)) rfl ?_ | refine en_det (opT_lss rfl rfl) rfl ?_
  refine en_nil <| en_then <| en_seq <| ?_
  refine en_if rfl (fun hlt => ?_) (fun hlt => ?_)
  · skip
    have hk5 : k < 5 := by omega
    have hrow : (trayL t)[k]? = some (.int .i64 (t k)) := row_get hk5
    have htk := ht k hk5
    refine en_skip <| en_then <| en_seq <| en_block <| en_seq <| en_region <| en_det (opT_index rfl rfl (by omega) (by omega) hrow) rfl <| en_det (opT_assign rfl) rfl <| en_nil <| en_then <| en_region <| en_det (opT_move rfl) rfl <| en_det (opT_move rfl) rfl <| en_det (opT_add rfl rfl (by constructor <;> omega)) rfl <| en_det (opT_assign rfl) rfl <| en_nil <| en_blk <| en_then <| en_region <| en_det (opT_add rfl rfl (by constructor <;> omega)) rfl <| en_det (opT_move rfl) rfl <| en_nil <| en_then <| ?_
    exact en_again (k + 1) (by omega) (by omega) ⟨rfl, rfl, gi rfl (by simp), trivial⟩ (.refl _) inferInstance
  · skip
    obtain rfl : k = 5 := by omega
    refine en_exit <| en_then_exit <| en_then_exit <| en_blk_hit <| en_then <| en_seq <| en_region <| en_det (opT_move rfl) rfl <| en_det (opT_assign rfl) rfl <| en_nil <| en_then <| en_ret <| ?_
    refine en_return (rs := [.tmp 2]) rfl (.cons (.tmp rfl) .nil) (.refl _) (Γ1 := []) ⟨rfl, rfl⟩
end Go.Sx

/- What holds up, what is left by the rule: plain. -/
namespace Go.Sx

theorem inS_sumL (s : Nat) (f : Nat → Int) : sumL (setL s) f = inS s f := by
  unfold setL sumL inS
  have r5 : List.range 5 = [0, 1, 2, 3, 4] := rfl
  rw [r5]
  simp only [sumN, List.filter_cons, List.filter_nil]
  cases s.testBit 0 <;> cases s.testBit 1 <;> cases s.testBit 2 <;> cases s.testBit 3 <;> cases s.testBit 4 <;> simp <;> omega
theorem beh_eq (b : BeltD) (t s : Nat) : behindD b.hand b.nh t s = behL b.nh (takesB b) (forceB b t) (allH b) s := by
  show _ = behL b.nh _ _ (List.range b.nh) s
  rw [behL_all]; rfl
theorem upN_eq (b : BeltD) (left : Nat → Int) (t s : Nat) : upN b left t s = inS s (keptD left (b.tray t)) - behL b.nh (takesB b) (forceB b t) (allH b) s := by
  unfold upN; rw [inS_sumL, beh_eq]
theorem bits_set : ∀ s : Fin 32, bitsOf (setI s) = s ∧ chosenE (setI s) = 0 := by decide +kernel
theorem kept_nn (left t : Nat → Int) (m : Nat) : 0 ≤ keptD left t m := by unfold keptD; omega
theorem kept_cast (left t : Nat → Int) : (fun m => (((keptD left t m).toNat : Nat) : Int)) = keptD left t := by
  funext m; unfold keptD; omega
theorem dirty_iff {b : BeltD} (hk : BOK b) {left : Nat → Int} {hands : List Nat} (hlt : ∀ x ∈ hands, x < b.nh) (t : Nat) :
    dirtyB b (keptD left) hands t = false ↔ ∀ s, inS s (keptD left (b.tray t)) ≤ behL b.nh (takesB b) (forceB b t) hands s := by
  have h1 : dirtyB b (keptD left) hands t = false ↔ ∀ m, m < 5 → (shB b (keptD left) t hands).2 m = 0 := by
    unfold dirtyB
    rw [Bool.not_eq_false', allI_iff]
    simp
  have h2 := left_none (takes := takesB b) hk.h5 hlt (force_nn hk t) (fun m => (keptD left (b.tray t) m).toNat)
  rw [kept_cast] at h2
  rw [h1]; exact h2
theorem first_spec {b : BeltD} {want : (Nat → Int) → Nat → Int} {hands : List Nat} (h : firstB b want hands < b.nt) : dirtyB b want hands (firstB b want hands) = true ∧ ∀ i, i < firstB b want hands → dirtyB b want hands i = false := by
  unfold firstB at h ⊢
  cases hf : (List.range b.nt).find? (dirtyB b want hands) with
  | none => rw [hf] at h; simp at h
  | some k =>
    rw [List.find?_eq_some_iff_getElem] at hf
    obtain ⟨h1, i, hi, h2, h3⟩ := hf
    simp only [List.getElem_range] at h2
    subst h2
    refine ⟨h1, fun j hj => ?_⟩
    have := h3 j hj
    simpa using this
theorem first_all {b : BeltD} {want : (Nat → Int) → Nat → Int} {hands : List Nat} (h : firstB b want hands = b.nt) : ∀ i, i < b.nt → dirtyB b want hands i = false := by
  intro i hi
  unfold firstB at h
  cases hf : (List.range b.nt).find? (dirtyB b want hands) with
  | none =>
    simp only [List.find?_eq_none] at hf
    simpa using hf i (by simpa using hi)
  | some k =>
    rw [hf] at h
    have := List.mem_of_find?_eq_some hf
    simp at this h; omega
/-- The set that is told holds up. -/
theorem held_up {b : BeltD} (hk : BOK b) {left : Nat → Int} (hl : ∀ m, m < 5 → 0 ≤ left m) {t : Nat} (ht : t < b.nt) (hd : dirtyB b (keptD left) (allH b) t = true) :
    1 ≤ upN b left t (heldB b (keptD left) t (allH b)) ∧ upN b left t (heldB b (keptD left) t (allH b)) ≤ sum5 (b.tray t) := by
  rw [upN_eq]
  have h1 := held_by (takes := takesB b) hk.h5 (allH_lt b) (force_nn hk t) (fun m => (keptD left (b.tray t) m).toNat)
  have h2 := left_sum (takes := takesB b) hk.h5 (allH_lt b) (force_nn hk t) (fun m => (keptD left (b.tray t) m).toNat)
  rw [kept_cast] at h1 h2
  have h3 : ∃ m, m < 5 ∧ 0 < (shB b (keptD left) t (allH b)).2 m := by
    unfold dirtyB at hd
    simp only [Bool.not_eq_true'] at hd
    have : ¬ (allI 5 fun m => decide ((shB b (keptD left) t (allH b)).2 m = 0)) = true := by rw [hd]; simp
    rw [allI_iff] at this
    simp only [decide_eq_true_eq, Classical.not_forall] at this
    obtain ⟨m, hm, hne⟩ := this
    exact ⟨m, hm, Nat.pos_of_ne_zero hne⟩
  obtain ⟨m, hm, hp⟩ := h3
  have h4 : ((shB b (keptD left) t (allH b)).2 m : Int) ≤ sum5 (fun m => ((shB b (keptD left) t (allH b)).2 m : Int)) := sumN_one (n := 5) (f := fun m => ((shB b (keptD left) t (allH b)).2 m : Int)) (fun i _ => by omega) hm
  have h5 : 0 ≤ sumN b.nh (fun h => sum5 ((shB b (keptD left) t (allH b)).1 h)) := sumN_nn fun i hi => (row_bound hk (out_ok b hk (keptD left) t (allH b) (allH_lt b)) hi).1
  have h6 : sum5 (keptD left (b.tray t)) ≤ sum5 (b.tray t) := sumN_le fun m hm => by
    have := hl m hm
    have := hk.tr t m ht hm
    unfold keptD; omega
  have e1 : heldD (takesB b) (shareS (takesB b) (forceB b t) (allH b) (fun m => (keptD left (b.tray t) m).toNat) 5).1 (allH b) (shareS (takesB b) (forceB b t) (allH b) (fun m => (keptD left (b.tray t) m).toNat) 5).2 = heldB b (keptD left) t (allH b) := rfl
  have e2 : shareS (takesB b) (forceB b t) (allH b) (fun m => (keptD left (b.tray t) m).toNat) 5 = shB b (keptD left) t (allH b) := rfl
  rw [e1, e2] at h1
  rw [e2] at h2
  omega
theorem clean_more {b : BeltD} (hk : BOK b) {left l' : Nat → Int} (h : ∀ m, m < 5 → left m ≤ l' m) (hc : cleanB b (keptD left) (allH b) = true) : cleanB b (keptD l') (allH b) = true := by
  rw [clean_hall hk (allH_lt b)] at hc ⊢
  intro t ht s
  have h1 := hc t ht s
  have h2 : inS s (keptD l' (b.tray t)) ≤ inS s (keptD left (b.tray t)) := sumN_le fun m hm => by
    have := h m hm
    show (if s.testBit m = true then keptD l' (b.tray t) m else 0) ≤ (if s.testBit m = true then keptD left (b.tray t) m else 0)
    split
    · unfold keptD; omega
    · exact Int.le_refl _
  omega

/-! ### What hands take of a tray by the rule -/
/-- One hand: what it takes of tray t, material by material. -/
structure TakeM (takes : Nat → Bool) (h t k : Nat) (s s' : RS) : Prop where
  f : s.f = s'.f + sumN k (fun m => s.left t m - s'.left t m)
  f0 : 0 ≤ s'.f
  le : ∀ m, s'.left t m ≤ s.left t m
  nn : ∀ m, m < 5 → 0 ≤ s'.left t m
  tk : ∀ m, s'.left t m ≠ s.left t m → m < k ∧ takes m = true
  row : ∀ i, i ≠ t → s'.left i = s.left i
  heap : ∀ i m, s'.heaps i m = s.heaps i m + if i = h then s.left t m - s'.left t m else 0
  spent : ∀ m, m < k → takes m = true → 0 < s'.left t m → s'.f = 0
theorem takeM {takes : Nat → Bool} {h t : Nat} {s : RS} (f0 : 0 ≤ s.f) (hl : ∀ m, m < 5 → 0 ≤ s.left t m) : ∀ k, k ≤ 5 → TakeM takes h t k s (stepsM takes h t s k)
  | 0, _ => ⟨by show s.f = s.f + 0; omega, f0, fun m => Int.le_refl _, hl, fun m hne => absurd rfl hne, fun _ _ => rfl, fun i m => by show s.heaps i m = s.heaps i m + _; split <;> (show _ = _ + _; have : (stepsM takes h t s 0).left t m = s.left t m := rfl; omega), fun m hm => by omega⟩
  | k + 1, hk => by
    have ih := takeM (takes := takes) (h := h) f0 hl k (by omega)
    rw [stepsM_succ]
    generalize stepsM takes h t s k = r at ih
    unfold stepM
    by_cases ht : takes k = true
    · rw [if_pos ht]
      have hk0 : r.left t k = s.left t k := by
        by_cases e : r.left t k = s.left t k
        · exact e
        · have := (ih.tk k e).1; omega
      have hmin : 0 ≤ min r.f (r.left t k) ∧ min r.f (r.left t k) ≤ r.f ∧ min r.f (r.left t k) ≤ r.left t k := by
        have := ih.f0; have := ih.nn k (by omega); omega
      have hsp : min r.f (r.left t k) < r.left t k → min r.f (r.left t k) = r.f := by omega
      generalize min r.f (r.left t k) = d at hmin hsp
      have hat : ∀ m, upd2 r.left t k (r.left t k - d) t m = r.left t m - if m = k then d else 0 := fun m => by
        unfold upd2
        by_cases e : m = k
        · subst e; simp
        · simp [e]
      refine ⟨?_, by simp only; omega, fun m => ?_, fun m hm => ?_, fun m hne => ?_, fun i hi => ?_, fun i m => ?_, fun m hm htm hp => ?_⟩
      · simp only
        have e : sumN (k + 1) (fun m => s.left t m - upd2 r.left t k (r.left t k - d) t m) = sumN k (fun m => s.left t m - r.left t m) + d := by
          simp only [sumN]
          rw [hat k, if_pos rfl]
          have : sumN k (fun m => s.left t m - upd2 r.left t k (r.left t k - d) t m) = sumN k (fun m => s.left t m - r.left t m) := sumN_congr fun m hm => by
            rw [hat m, if_neg (by omega)]; omega
          rw [this, hk0]; omega
        rw [e]; have := ih.f; omega
      · have := ih.le m
        dsimp only
        rw [hat]; split <;> omega
      · have := ih.nn m hm
        dsimp only
        rw [hat]
        split
        · rename_i e; subst e; omega
        · omega
      · dsimp only at hne
        rw [hat] at hne
        by_cases e : m = k
        · subst e; exact ⟨by omega, ht⟩
        · simp only [e, if_false, Int.sub_zero] at hne
          have := ih.tk m hne
          exact ⟨by omega, this.2⟩
      · show upd2 r.left t k (r.left t k - d) i = s.left i
        rw [upd2_row_ne hi, ih.row i hi]
      · dsimp only
        rw [hat]
        have := ih.heap i m
        unfold upd2
        by_cases e1 : i = h
        · subst e1
          by_cases e2 : m = k
          · subst e2; simp at this ⊢; omega
          · simp [e2] at this ⊢; omega
        · simp [e1] at this ⊢; omega
      · dsimp only at hp ⊢
        rw [hat] at hp
        by_cases e : m = k
        · subst e
          simp only [if_true] at hp
          have := hsp (by omega); omega
        · simp only [e, if_false] at hp
          have := ih.spent m (by omega) htm (by omega)
          omega
    · rw [if_neg ht]
      have hk0 : r.left t k = s.left t k := by
        by_cases e : r.left t k = s.left t k
        · exact e
        · have := (ih.tk k e).1; omega
      refine ⟨?_, ih.f0, ih.le, ih.nn, fun m hne => ?_, ih.row, ih.heap, fun m hm htm hp => ?_⟩
      · simp only [sumN]; rw [hk0]; have := ih.f; omega
      · have := ih.tk m hne; exact ⟨by omega, this.2⟩
      · by_cases e : m = k
        · subst e; exact absurd htm ht
        · exact ih.spent m (by omega) htm hp
end Go.Sx

/- What hands take by the rule, tray by tray: plain. -/
namespace Go.Sx

structure RuleX (H : Nat → HandD) (order : List Nat) (t : Nat) (before after : Nat → Int) (x : Nat → Nat → Int) : Prop where
  nn : ∀ h m, 0 ≤ x h m
  le : ∀ h, h ∈ order → sum5 (x h) ≤ forceD (H h) t
  tk : ∀ h m, m < 5 → 0 < x h m → (H h).takes m = true
  out : ∀ h, h ∉ order → ∀ m, x h m = 0
  left : ∀ m, after m = before m - sumL order (fun h => x h m)
  nnl : ∀ m, m < 5 → 0 ≤ after m
  spent : ∀ h, h ∈ order → ∀ m, m < 5 → (H h).takes m = true → 0 < after m → sum5 (x h) = forceD (H h) t

theorem trayT_ok {H : Nat → HandD} {t : Nat} : ∀ (order : List Nat) (s : (Nat → Nat → Int) × (Nat → Nat → Int)), order.Nodup → (∀ h ∈ order, 0 ≤ forceD (H h) t) → (∀ m, m < 5 → 0 ≤ s.1 t m) →
    ∃ x, RuleX H order t (s.1 t) ((order.foldl (handT H t) s).1 t) x ∧ (∀ i, i ≠ t → (order.foldl (handT H t) s).1 i = s.1 i) ∧ ∀ i m, (order.foldl (handT H t) s).2 i m = s.2 i m + x i m
  | [], s, _, _, h0 => ⟨fun _ _ => 0, ⟨fun _ _ => Int.le_refl _, fun _ hh => by simp at hh, fun _ _ _ hp => by omega, fun _ _ _ => rfl, fun m => by simp [sumL], h0, fun _ hh => by simp at hh⟩, fun _ _ => rfl, fun _ _ => by simp⟩
  | h :: order, s, hn, hf, h0 => by
    rw [List.nodup_cons] at hn
    have a := takeM (takes := (H h).takes) (h := h) (t := t) (s := ⟨forceD (H h) t, s.1, s.2⟩) (hf h (by simp)) h0 5 (Nat.le_refl _)
    have e1 : handT H t s h = ((stepsM (H h).takes h t ⟨forceD (H h) t, s.1, s.2⟩ 5).left, (stepsM (H h).takes h t ⟨forceD (H h) t, s.1, s.2⟩ 5).heaps) := rfl
    generalize stepsM (H h).takes h t ⟨forceD (H h) t, s.1, s.2⟩ 5 = r at a e1
    obtain ⟨x, hx, hrow, hheap⟩ := trayT_ok order (r.left, r.heaps) hn.2 (fun g hg => hf g (by simp [hg])) a.nn
    rw [List.foldl_cons, e1]
    generalize order.foldl (handT H t) (r.left, r.heaps) = z at hx hrow hheap
    have hxh := hx.out h hn.1
    have hy0 : ∀ m, 0 ≤ s.1 t m - r.left t m := fun m => by have := a.le m; simp only at this; omega
    have hlo : ∀ m, z.1 t m ≤ r.left t m := fun m => by
      rw [hx.left m]
      have hp : ∀ l : List Nat, 0 ≤ (l.map fun g => x g m).sum := fun l => by
        induction l with
        | nil => simp
        | cons g l ih => have := hx.nn g m; simp only [List.map_cons, List.sum_cons]; omega
      have := hp order
      show r.left t m - sumL order (fun g => x g m) ≤ r.left t m
      unfold sumL; omega
    have hsum : sum5 (fun m => s.1 t m - r.left t m) = forceD (H h) t - r.f := by have := a.f; simp only at this; unfold sum5; omega
    refine ⟨fun i m => if i = h then s.1 t m - r.left t m else x i m, ⟨fun i m => ?_, fun i hi => ?_, fun i m hm hp => ?_, fun i hi m => ?_, fun m => ?_, hx.nnl, fun i hi m hm htk hp => ?_⟩, fun i hi => ?_, fun i m => ?_⟩
    · split
      · exact hy0 m
      · exact hx.nn i m
    · by_cases e : i = h
      · subst e
        simp only [if_true]
        have := a.f0
        omega
      · simp only [e, if_false]
        exact hx.le i (by simpa [e] using hi)
    · by_cases e : i = h
      · subst e
        simp only [if_true] at hp
        exact (a.tk m (by simp only; omega)).2
      · simp only [e, if_false] at hp
        exact hx.tk i m hm hp
    · have h1 : i ≠ h := fun e => hi (by simp [e])
      simp only [h1, if_false]
      exact hx.out i (fun hh => hi (by simp [hh])) m
    · have e2 : sumL (h :: order) (fun i => if i = h then s.1 t m - r.left t m else x i m) = (s.1 t m - r.left t m) + sumL order (fun i => x i m) := by
        simp only [sumL, List.map_cons, List.sum_cons, if_true]
        congr 2
        refine List.map_congr_left fun g hg => ?_
        have : g ≠ h := fun e => hn.1 (e ▸ hg)
        simp [this]
      rw [e2, hx.left m]; show r.left t m - _ = _; omega
    · by_cases e : i = h
      · subst e
        simp only [if_true]
        have h1 := hlo m
        have h2 := a.spent m hm htk (by omega)
        omega
      · simp only [e, if_false]
        exact hx.spent i (by simpa [e] using hi) m hm htk hp
    · rw [hrow i hi]; exact a.row i hi
    · rw [hheap i m]
      have h1 := a.heap i m
      simp only at h1 ⊢
      rw [h1]
      by_cases e : i = h
      · subst e; simp [hxh m]
      · simp [e]

structure RuledX (H : Nat → HandD) (tray : Nat → Nat → Int) (order : List Nat) (k : Nat) (s : (Nat → Nat → Int) × (Nat → Nat → Int)) (X : Nat → Nat → Nat → Int) : Prop where
  each : ∀ t, t < k → RuleX H order t (tray t) (s.1 t) (X t)
  later : ∀ t, k ≤ t → s.1 t = tray t
  heap : ∀ h m, s.2 h m = sumN k fun t => X t h m
theorem ruled {H : Nat → HandD} {tray : Nat → Nat → Int} {order : List Nat} {nt : Nat} (hn : order.Nodup) (hf : ∀ h ∈ order, ∀ t, 0 ≤ forceD (H h) t) (h0 : ∀ t, t < nt → ∀ m, m < 5 → 0 ≤ tray t m) : ∀ k, k ≤ nt → ∃ X, RuledX H tray order k (ruleN H tray order k) X
  | 0, _ => ⟨fun _ _ _ => 0, fun t ht => by omega, fun _ _ => rfl, fun _ _ => rfl⟩
  | k + 1, hk => by
    obtain ⟨X, hX⟩ := ruled hn hf h0 k (by omega)
    rw [ruleN_succ]
    generalize ruleN H tray order k = s at hX
    unfold trayT
    have e := hX.later k (Nat.le_refl _)
    obtain ⟨x, hx, hrow, hheap⟩ := trayT_ok (H := H) (t := k) order s hn (fun h hh => hf h hh k) (by rw [e]; exact h0 k (by omega))
    generalize order.foldl (handT H k) s = z at hx hrow hheap
    refine ⟨fun t => if t = k then x else X t, fun t ht => ?_, fun t ht => ?_, fun h m => ?_⟩
    · by_cases e1 : t = k
      · subst e1; simp only [if_true]; rw [e] at hx; exact hx
      · simp only [e1, if_false]
        rw [hrow t e1]; exact hX.each t (by omega)
    · rw [hrow t (by omega)]; exact hX.later t (by omega)
    · rw [hheap h m, hX.heap h m]
      simp only [sumN, if_true]
      congr 1
      refine sumN_congr fun t ht => ?_
      have : t ≠ k := by omega
      simp [this]

/-- What is left by the rule can be left. -/
theorem rule_clean {b : BeltD} (hk : BOK b) {R : Nat → Int} (hR : ∀ t m, t < b.nt → m < 5 → (ruleN b.hand b.tray (allH b) b.nt).1 t m ≤ R m) : cleanB b (keptD R) (allH b) = true := by
  rw [clean_hall hk (allH_lt b)]
  intro t ht s
  obtain ⟨X, hX⟩ := ruled (H := b.hand) (tray := b.tray) (order := allH b) (nt := b.nt) List.nodup_range (fun h hh t => force_nn hk t h (allH_lt b h hh)) (fun t ht m hm => (hk.tr t m ht hm).1) b.nt (Nat.le_refl _)
  have hx := hX.each t ht
  generalize X t = x at hx
  have hl := hR t
  generalize (ruleN b.hand b.tray (allH b) b.nt).1 t = L at hx hl
  have ok : OutOK b.nh (takesB b) (forceB b t) x := ⟨fun h m _ _ => hx.nn h m, fun h hh => hx.le h (by simpa [allH] using hh), fun h m _ hm hp => hx.tk h m hm hp⟩
  have h1 := share_le (hands := allH b) ok (fun h hh hn m _ => hx.out h hn m) (fun m _ => Int.le_refl (tot b.nh x m)) s
  have e1 : sumN b.nh (fun h => sum5 (x h)) = sum5 (tot b.nh x) := by unfold sum5 tot; rw [sumN_swap]
  have h2 := in_ex s (tot b.nh x)
  have h3 : inS s (keptD R (b.tray t)) ≤ inS s (tot b.nh x) := sumN_le fun m hm => by
    have h4 := hl m ht hm
    have h5 := hx.left m
    have h6 : sumL (allH b) (fun h => x h m) = tot b.nh x m := by unfold sumL tot allH; rw [sumN_range]
    have h7 : 0 ≤ tot b.nh x m := sumN_nn fun h _ => hx.nn h m
    show (if s.testBit m = true then keptD R (b.tray t) m else 0) ≤ (if s.testBit m = true then tot b.nh x m else 0)
    split
    · unfold keptD; omega
    · exact Int.le_refl _
  omega
end Go.Sx

/- The law BeltClean: the walk. -/
namespace Go.Sx
open Go.Proofs
set_option maxRecDepth 100000
theorem held_cases {b : BeltD} {left : Nat → Int} {v : Value} {h' : Heap} {Γ' : List HP} (hz : keptE b left = 0) (hr : HeldR b left v h' Γ') :
    ∃ (tt : Int) (sv : Value) (e : Int), v = .tuple #[.int .i64 tt, sv, .int .i64 e] ∧ Γ' = [] ∧ ((cleanB b (keptD left) (allH b) = true ∧ firstB b (keptD left) (allH b) = b.nt ∧ tt = 0 ∧ e = 1) ∨
      (cleanB b (keptD left) (allH b) = false ∧ firstB b (keptD left) (allH b) < b.nt ∧ tt = firstB b (keptD left) (allH b) ∧ e = 0 ∧ IsInts h' sv (setI (firstS b (keptD left) (allH b))))) := by
  obtain ⟨rfl, ⟨_, h1, rfl⟩ | ⟨_, h1, sv, rfl, h2⟩ | ⟨h1, _⟩⟩ := hr
  · exact ⟨_, _, _, rfl, rfl, .inl ⟨by unfold cleanB; simp [h1], h1, rfl, rfl⟩⟩
  · exact ⟨_, sv, _, rfl, rfl, .inr ⟨by unfold cleanB; simp; omega, h1, rfl, rfl, h2⟩⟩
  · exact absurd hz h1
def rmax (f : Nat → Nat → Int) : Nat → Nat → Int
  | 0, _ => 0
  | j + 1, m => max (rmax f j m) (f j m)
theorem rmax_ge {f : Nat → Nat → Int} : ∀ {n i : Nat} {m : Nat}, i < n → f i m ≤ rmax f n m
  | 0, i, m, h => by omega
  | n + 1, i, m, h => by
    simp only [rmax]
    by_cases e : i = n
    · subst e; omega
    · have := rmax_ge (f := f) (n := n) (i := i) (m := m) (by omega); omega
theorem rmax_bound {f : Nat → Nat → Int} {B : Int} (hB : 0 ≤ B) : ∀ {n m : Nat}, (∀ i, i < n → f i m ≤ B) → 0 ≤ rmax f n m ∧ rmax f n m ≤ B
  | 0, _, _ => by simp [rmax, hB]
  | n + 1, m, h => by
    have := rmax_bound (f := f) hB (n := n) (m := m) fun i hi => h i (by omega)
    have := h n (by omega)
    simp only [rmax]; omega
def rstep (f : Nat → Nat → Int) (j k : Nat) : Nat → Int := fun m => if m < k then rmax f (j + 1) m else rmax f j m
theorem rstep_five (f : Nat → Nat → Int) (j : Nat) : trayL (rstep f j 5) = trayL (rmax f (j + 1)) := row_congr fun m hm => by simp [rstep, hm]
theorem rstep_next (f : Nat → Nat → Int) (j k : Nat) : (fun m => if m = k then max (rmax f j k) (f j k) else rstep f j k m) = rstep f j (k + 1) := by
  funext m
  unfold rstep
  by_cases e : m = k
  · subst e; simp [rmax]
  · by_cases h : m < k
    · simp [e, h, show m < k + 1 by omega]
    · simp [e, h, show ¬ m < k + 1 by omega]
def addL (l : Nat → Int) (a : Nat → Int) : Nat → Int := fun m => l m + a m
attribute [local irreducible] Code.wpIn wpListIn Exit.then Exit.inBlock BQ Again Hd St En OpT box blk RQ BQ0 fmap own Desk Chute
theorem cleanlaw_ct (h : Heap) (v1 v2 : Value) (y1 y2 : List Int) (hy1 : IsBytes h v1 y1) (hy2 : IsBytes h v2 y2) : CT Try.prog 7 [v1, v2] h [] (DetW (.bool true) []) := by
  refine ct_intro Try.func7 rfl rfl rfl rfl fun Φ => ?_
  refine en_seq <| en_region <| en_det (opT_assign rfl) rfl <| en_nil <| en_then <| en_seq <| en_region <| en_det (opT_move rfl) rfl <| ?_
  refine en_call (fill_ct h v1 y1 hy1) rfl rfl rfl rfl fun v h1 Γ' s1 hv => ?_
  obtain ⟨c1, rfl, rfl⟩ := hv
  refine en_norm ?_
  refine en_callq (made_ct h1 c1 v1 y1 5 5 (hy1.mono s1) (by omega) (by omega) (by omega) (by omega)) rfl rfl rfl rfl fun v h2 s2 hv => ?_
  obtain ⟨b, hB, hM⟩ := hv
  have hk := hM.ok (by omega) (by omega)
  have hk5 := hk.h5
  have hn1 := hk.n1
  have hn8 := hk.n8
  obtain ⟨tv, hv, rfl, ⟨tl, tad, tcp, rfl, _, _, tp1⟩, ⟨rv, ⟨hl0, had, hcp, rfl, hq⟩, hr⟩⟩ := id hB
  clear tl hl0 hq hr
  refine en_drop ?_
  refine en_alloc rfl fun b5 => ?_
  refine en_det0 (opT_storeW rfl rfl rfl rfl (by simp [Value.oneCell'])) <| en_nil <| en_then <| en_seq <| en_region <| en_det (opT_move rfl) rfl <| ?_
  refine en_call (fill_ct h2 v2 y2 (hy2.mono (s1.trans s2))) rfl rfl rfl rfl fun v h3 Γ' s3 hv => ?_
  obtain ⟨c2, rfl, rfl⟩ := hv
  refine en_norm ?_
  have z3 := hy2.mono (s1.trans (s2.trans s3))
  refine en_det (opT_assign rfl) rfl <| en_nil <| en_then <| en_seq <| en_region <| en_det (opT_move rfl) rfl <| ?_
  refine en_callq (piled_ct h3 c2 v2 y2 12 z3 (by omega) (by omega)) rfl rfl rfl rfl fun v h4 s4 hv => ?_
  obtain ⟨left, rfl, hleft⟩ := hv
  have hl : piecesD left = true := piecesD_iff.2 fun m hm => by have := hleft m hm; omega
  have hz := kept_ok hk hl
  have B4 := hB.mono (s3.trans s4)
  have cC := clean16_ct h4 _ _ b left B4
  rw [hz, if_pos rfl] at cC
  refine en_alloc rfl fun b7 => ?_
  refine en_det0 (opT_storeW rfl rfl rfl rfl (one_trayL _)) <| en_nil <| en_then <| en_seq <| en_region <| ?_
  first | refine en_det (opT_loadW_own rfl rfl) rfl ?_ | refine en_det (opT_loadA_own rfl) rfl ?_
  refine en_det (opT_loadW_own rfl (row_length _ _)) rfl <| ?_
  refine en_call cC rfl rfl rfl rfl fun v h5 Γ' s5 hv => ?_
  obtain ⟨rfl, rfl⟩ := hv
  refine en_norm ?_
  have B5 := B4.mono s5
  clear cC
  refine en_det (opT_move rfl) rfl <| en_det (opT_extract rfl rfl) rfl <| en_det (opT_extract rfl rfl) rfl <| en_det (opT_assign rfl) rfl <| en_det (opT_assign rfl) rfl <| en_nil <| en_then <| en_seq <| en_region <| ?_
  first | refine en_det (opT_loadW_own rfl rfl) rfl ?_ | refine en_det (opT_loadA_own rfl) rfl ?_
  refine en_det (opT_loadW_own rfl (row_length _ _)) rfl <| ?_
  refine en_call (held41_ct h5 _ _ b left B5) rfl rfl rfl rfl fun v h6 Γ' s6 hv => ?_
  obtain ⟨tt, sv, e12, rfl, rfl, hcase⟩ := held_cases hz hv
  clear hv
  refine en_norm ?_
  have B6 := B5.mono s6
  have z6 := z3.mono (s4.trans (s5.trans s6))
  have T6 : 0 < b.nt → ∃ q off, tad = some ⟨q, off, none⟩ ∧ CellsH h6 q off (rows b.nt 5 (icell b.tray)) := fun h0 => by
    obtain ⟨q, off, e, hc⟩ := tp1 h0; exact ⟨q, off, e, hc.mono (s3.trans (s4.trans (s5.trans s6)))⟩
  obtain ⟨tq, toff, rfl, tcells⟩ := T6 (by omega)
  generalize hfir : firstB b (keptD left) (allH b) = T at hcase
  generalize hcl : cleanB b (keptD left) (allH b) = cl at hcase ⊢
  refine en_det (opT_move rfl) rfl <| en_det (opT_extract rfl rfl) rfl <| en_det (opT_extract rfl rfl) rfl <| en_det (opT_extract rfl rfl) rfl <| en_det (opT_assign rfl) rfl <| en_det (opT_assign rfl) rfl <| en_det (opT_assign rfl) rfl <| en_nil <| en_then <| ?_
  refine en_meet (ι := Unit) (fun _ => True) (fun _ => [(5, pt b5), (6, pt c2), (7, pt b7), (8, .bool cl), (10, .int .i64 tt), (11, sv)]) (fun _ => h6) (fun _ => [box b5 26 [.slice (some ⟨tq, toff, none⟩) b.nt tcp, .slice had b.nh hcp], box b7 31 (trayL left), Chute c2 v2 y2.length]) ?_ (fun _ _ => ?_)
  · skip
    skip
    rcases hcase with ⟨rfl, e1, rfl, rfl⟩ | ⟨rfl, e1, rfl, rfl, _⟩
    · refine en_seq <| en_region <| en_det (opT_move rfl) rfl <| en_det (opT_neq_f rfl rfl (by omega)) rfl <| en_det (opT_move rfl) rfl <| en_g_yes rfl rfl <| en_det (opT_move rfl) rfl <| en_g_yes rfl rfl <| en_det (opT_neq_t rfl rfl (by omega)) rfl <| en_g_yes rfl rfl <| en_det (opT_move rfl) rfl <| en_g_yes rfl rfl <| en_det (opT_move rfl) rfl <| en_g_yes rfl rfl <| en_det (opT_neq_f rfl rfl (by omega)) rfl <| en_g_yes rfl rfl <| ?_
      first | refine en_det (opT_pick_t rfl rfl) rfl ?_ | refine en_det (opT_pick_f rfl rfl) rfl ?_
      first | refine en_det (opT_pick_t rfl rfl) rfl ?_ | refine en_det (opT_pick_f rfl rfl) rfl ?_
      refine en_det (opT_move rfl) rfl <| en_g_yes rfl rfl <| en_det (opT_move rfl) rfl <| en_g_yes rfl rfl <| en_det (opT_move rfl) rfl <| en_g_yes rfl rfl <| en_det (opT_eql_t rfl rfl (by omega)) rfl <| en_g_yes rfl rfl <| en_det (opT_neB rfl rfl) rfl <| ?_
      first | refine en_det (opT_pick_t rfl rfl) rfl ?_ | refine en_det (opT_pick_f rfl rfl) rfl ?_
      refine en_det (opT_move rfl) rfl <| en_g_yes rfl rfl <| en_det (opT_move rfl) rfl <| en_g_yes rfl rfl <| en_det (opT_lss_f rfl rfl (by omega)) rfl <| ?_
      first | refine en_det (opT_pick_t rfl rfl) rfl ?_ | refine en_det (opT_pick_f rfl rfl) rfl ?_
      refine en_det (opT_move rfl) rfl <| en_g_yes rfl rfl <| en_det (opT_move rfl) rfl <| en_g_yes rfl rfl <| en_det (opT_fieldAddr rfl) rfl <| en_g_yes rfl rfl <| en_det (opT_load_own rfl rfl) rfl <| en_g_yes rfl rfl <| en_det (opT_len rfl) rfl <| en_g_yes rfl rfl <| en_det (opT_geq_f rfl rfl (by omega)) rfl <| ?_
      first | refine en_det (opT_pick_t rfl rfl) rfl ?_ | refine en_det (opT_pick_f rfl rfl) rfl ?_
      refine en_nil <| en_then <| en_cond_f rfl <| en_skip <| en_then <| ?_
      exact en_met () trivial ⟨rfl, rfl, rfl, rfl, rfl, rfl, trivial⟩ (.refl _) inferInstance
    · skip
      refine en_seq <| en_region <| en_det (opT_move rfl) rfl <| en_det (opT_neq_f rfl rfl (by omega)) rfl <| en_det (opT_move rfl) rfl <| en_g_yes rfl rfl <| en_det (opT_move rfl) rfl <| en_g_yes rfl rfl <| en_det (opT_neq_f rfl rfl (by omega)) rfl <| en_g_yes rfl rfl <| en_det (opT_move rfl) rfl <| en_g_no rfl rfl rfl <| en_g_no rfl rfl rfl <| en_g_yes rfl rfl <| ?_
      first | refine en_det (opT_pick_t rfl rfl) rfl ?_ | refine en_det (opT_pick_f rfl rfl) rfl ?_
      first | refine en_det (opT_pick_t rfl rfl) rfl ?_ | refine en_det (opT_pick_f rfl rfl) rfl ?_
      refine en_det (opT_move rfl) rfl <| en_g_yes rfl rfl <| en_det (opT_move rfl) rfl <| en_g_yes rfl rfl <| en_det (opT_move rfl) rfl <| en_g_yes rfl rfl <| en_det (opT_eql_f rfl rfl (by omega)) rfl <| en_g_yes rfl rfl <| en_det (opT_neB rfl rfl) rfl <| ?_
      first | refine en_det (opT_pick_t rfl rfl) rfl ?_ | refine en_det (opT_pick_f rfl rfl) rfl ?_
      refine en_det (opT_move rfl) rfl <| en_g_yes rfl rfl <| en_det (opT_move rfl) rfl <| en_g_yes rfl rfl <| en_det (opT_lss_f rfl rfl (by omega)) rfl <| ?_
      first | refine en_det (opT_pick_t rfl rfl) rfl ?_ | refine en_det (opT_pick_f rfl rfl) rfl ?_
      refine en_det (opT_move rfl) rfl <| en_g_yes rfl rfl <| en_det (opT_move rfl) rfl <| en_g_yes rfl rfl <| en_det (opT_fieldAddr rfl) rfl <| en_g_yes rfl rfl <| en_det (opT_load_own rfl rfl) rfl <| en_g_yes rfl rfl <| en_det (opT_len rfl) rfl <| en_g_yes rfl rfl <| en_det (opT_geq_f rfl rfl (by omega)) rfl <| ?_
      first | refine en_det (opT_pick_t rfl rfl) rfl ?_ | refine en_det (opT_pick_f rfl rfl) rfl ?_
      refine en_nil <| en_then <| en_cond_f rfl <| en_skip <| en_then <| ?_
      exact en_met () trivial ⟨rfl, rfl, rfl, rfl, rfl, rfl, trivial⟩ (.refl _) inferInstance
  · skip
    change En _ _ _ [(5, pt b5), (6, pt c2), (7, pt b7), (8, .bool cl), (10, .int .i64 tt), (11, sv)] h6 [box b5 26 [.slice (some ⟨tq, toff, none⟩) b.nt tcp, .slice had b.nh hcp], box b7 31 (trayL left), Chute c2 v2 y2.length]
    skip
    refine en_meet (ι := Heap) (fun x => h6.sub x) (fun _ => [(5, pt b5), (6, pt c2), (7, pt b7), (8, .bool cl), (10, .int .i64 tt)]) (fun x => x) (fun _ => [box b5 26 [.slice (some ⟨tq, toff, none⟩) b.nt tcp, .slice had b.nh hcp], box b7 31 (trayL left), Chute c2 v2 y2.length]) ?_ (fun h7 s7 => ?_)
    · skip
      skip
      rcases hcase with ⟨rfl, e1, rfl, rfl⟩ | ⟨rfl, e1, rfl, rfl, hsv⟩
      · refine en_seq <| en_region <| en_det (opT_move rfl) rfl <| ?_
        first | refine en_det (opT_not_t rfl) rfl ?_ | refine en_det (opT_not_f rfl) rfl ?_ | refine en_det (opT_not rfl) rfl ?_
        refine en_nil <| en_then <| en_cond_f rfl <| en_skip <| en_then <| ?_
        exact en_met h6 (.refl _) ⟨rfl, rfl, rfl, rfl, rfl, trivial⟩ (.refl _) (tkAll _)
      · have hsp := first_spec (b := b) (want := keptD left) (hands := allH b) (by rw [hfir]; exact e1)
        rw [hfir] at hsp
        have hfS : firstS b (keptD left) (allH b) = heldB b (keptD left) T (allH b) := by unfold firstS; rw [hfir, if_neg (by omega)]
        have hlt := heldB_lt b (keptD left) T (allH b)
        have hup := held_up hk (fun m hm => (hleft m hm).1) e1 hsp.1
        have hbs := bits_set ⟨heldB b (keptD left) T (allH b), hlt⟩
        simp only at hbs
        rw [hfS] at hsv
        have hin : inD (T : Int) 0 (b.nt - 1) = true := by simp only [inD, decide_eq_true_eq]; omega
        have hue : upE b left T (setI (heldB b (keptD left) T (allH b))) = 0 := by
          unfold upE
          rw [hz, if_pos rfl, if_pos hin, hbs.2, if_pos rfl, hbs.1, Int.toNat_natCast, if_neg (by omega)]
        have cU := heldup_ct h6 _ _ sv b left T _ B6 hsv
        rw [hue, if_pos rfl, hbs.1, Int.toNat_natCast] at cU
        have htr := hM.tr T
        have hrow : CellsH h6 tq (toff + T * 5) (trayL (b.tray T)) := tcells.row e1
        generalize upN b left T (heldB b (keptD left) T (allH b)) = U at hup cU
        refine en_seq <| en_region <| en_det (opT_move rfl) rfl <| ?_
        first | refine en_det (opT_not_t rfl) rfl ?_ | refine en_det (opT_not_f rfl) rfl ?_ | refine en_det (opT_not rfl) rfl ?_
        refine en_nil <| en_then <| en_cond_t rfl <| en_seq <| en_region <| ?_
        first | refine en_det (opT_loadW_own rfl rfl) rfl ?_ | refine en_det (opT_loadA_own rfl) rfl ?_
        refine en_det (opT_loadW_own rfl (row_length _ _)) rfl <| en_det (opT_move rfl) rfl <| en_det (opT_move rfl) rfl <| ?_
        refine en_call cU rfl rfl rfl rfl fun v h7 Γ' s7 hv => ?_
        obtain ⟨rfl, rfl⟩ := hv
        refine en_norm ?_
        have hrow := hrow.mono s7
        refine en_det (opT_move rfl) rfl <| en_det (opT_extract rfl rfl) rfl <| en_det (opT_extract rfl rfl) rfl <| en_det (opT_assign rfl) rfl <| en_det (opT_assign rfl) rfl <| en_nil <| en_then <| en_seq <| en_region <| en_det (opT_move rfl) rfl <| en_det (opT_neq_f rfl rfl (by omega)) rfl <| en_det (opT_move rfl) rfl <| en_g_yes rfl rfl <| en_det (opT_move rfl) rfl <| en_g_yes rfl rfl <| en_det (opT_lss_f rfl rfl (by omega)) rfl <| ?_
        first | refine en_det (opT_pick_t rfl rfl) rfl ?_ | refine en_det (opT_pick_f rfl rfl) rfl ?_
        refine en_det (opT_move rfl) rfl <| en_g_yes rfl rfl <| en_det (opT_move rfl) rfl <| en_g_yes rfl rfl <| en_det (opT_fieldAddr rfl) rfl <| en_g_yes rfl rfl <| en_det (opT_load_own rfl rfl) rfl <| en_g_yes rfl rfl <| en_det (opT_move rfl) rfl <| en_g_yes rfl rfl <| ?_
        first | refine en_det (opT_idx1 rfl rfl (by omega) (by omega)) rfl ?_ | refine en_det (opT_idx (ks := 0) rfl rfl (by omega) (by omega)) rfl ?_
        refine en_g_yes rfl rfl <| en_det (opT_loadA_h rfl hrow (row_length _ _)) rfl <| en_g_yes rfl rfl <| en_calld (sum40_ct h7 (b.tray T) (fun m hm => by have := htr m e1 hm; omega)) rfl rfl rfl rfl <| en_g_yes rfl rfl <| en_det (opT_gtr_f rfl rfl (by omega)) rfl <| ?_
        first | refine en_det (opT_pick_t rfl rfl) rfl ?_ | refine en_det (opT_pick_f rfl rfl) rfl ?_
        refine en_nil <| en_then <| en_cond_f rfl <| en_skip <| en_then <| ?_
        exact en_met h7 s7 ⟨rfl, rfl, rfl, rfl, rfl, trivial⟩ (.refl _) inferInstance
    · skip
      change En _ _ _ [(5, pt b5), (6, pt c2), (7, pt b7), (8, .bool cl), (10, .int .i64 tt)] h7 [box b5 26 [.slice (some ⟨tq, toff, none⟩) b.nt tcp, .slice had b.nh hcp], box b7 31 (trayL left), Chute c2 v2 y2.length]
      have B7 := B6.mono s7
      have z7 := z6.mono s7
      have hcase2 : (cl = true ∧ T = b.nt) ∨ (cl = false ∧ tt = T ∧ T < b.nt) := by
        rcases hcase with ⟨a1, a2, _⟩ | ⟨a1, a2, a3, _⟩
        · exact .inl ⟨a1, a2⟩
        · exact .inr ⟨a1, a3, a2⟩
      clear hcase
      have hno : ∀ t, t < T → t < b.nt → ∀ s, s < 32 → upN b left t s < 1 := fun t ht htn s _ => by
        have hd : dirtyB b (keptD left) (allH b) t = false := by
          rcases hcase2 with ⟨_, e⟩ | ⟨_, _, e⟩
          · exact first_all (by rw [hfir, e]) t htn
          · exact (first_spec (by rw [hfir]; exact e)).2 t (by rw [hfir]; exact ht)
        rw [upN_eq]
        have := (dirty_iff hk (allH_lt b) t).1 hd s
        omega
      skip
      refine en_meet (ι := Heap) (fun x => h7.sub x) (fun _ => [(5, pt b5), (6, pt c2), (7, pt b7), (8, .bool cl)]) (fun x => x) (fun _ => [box b5 26 [.slice (some ⟨tq, toff, none⟩) b.nt tcp, .slice had b.nh hcp], box b7 31 (trayL left), Chute c2 v2 y2.length]) ?_ (fun h8 s8 => ?_)
      · skip
        refine en_seq <| en_region <| en_det (opT_fieldAddr rfl) rfl <| en_det (opT_load_own rfl rfl) rfl <| en_det (opT_len rfl) rfl <| en_det (opT_move rfl) rfl <| en_nil <| en_then <| en_block <| ?_
        refine en_loop (fun x : Nat × Heap => x.1 ≤ b.nt ∧ h7.sub x.2) (fun x => [(5, pt b5), (6, pt c2), (7, pt b7), (8, .bool cl), (10, .int .i64 tt), (105, .int .i64 b.nt), (106, .int .i64 x.1)]) (fun x => x.2) (fun _ => [box b5 26 [.slice (some ⟨tq, toff, none⟩) b.nt tcp, .slice had b.nh hcp], box b7 31 (trayL left), Chute c2 v2 y2.length]) (fun x => b.nt - x.1) (0, h7) ⟨by simp, .refl _⟩ ⟨rfl, rfl, rfl, rfl, rfl, rfl, rfl, trivial⟩ (.refl _) (tkAll _) fun x hx => ?_
        obtain ⟨k, h8⟩ := x
        obtain ⟨hkn, s8⟩ := hx
        simp only at hkn s8
        change En _ _ _ [(5, pt b5), (6, pt c2), (7, pt b7), (8, .bool cl), (10, .int .i64 tt), (105, .int .i64 b.nt), (106, .int .i64 k)] h8 [box b5 26 [.slice (some ⟨tq, toff, none⟩) b.nt tcp, .slice had b.nh hcp], box b7 31 (trayL left), Chute c2 v2 y2.length]
        refine en_seq <| en_region <| ?_
        first | refine en_det (opT_lss_t rfl rfl (by omega)) rfl ?_ | refine en_det (opT_lss_f rfl rfl (by omega)) rfl ?_ | refine en_det (opT_lss rfl rfl) rfl ?_
        refine en_nil <| en_then <| en_seq <| ?_
        refine en_if rfl (fun hlt1 => ?_) (fun hlt1 => ?_)
        · skip
          have hkl : k < b.nt := by omega
          refine en_skip <| en_then <| en_seq <| en_block <| en_seq <| en_region <| en_det (opT_move rfl) rfl <| en_det (opT_assign rfl) rfl <| en_nil <| en_then <| ?_
          refine en_meet (ι := Unit) (fun _ => k < T) (fun _ => [(5, pt b5), (6, pt c2), (7, pt b7), (8, .bool cl), (10, .int .i64 tt), (105, .int .i64 b.nt), (106, .int .i64 k), (15, .int .i64 k)]) (fun _ => h8) (fun _ => [box b5 26 [.slice (some ⟨tq, toff, none⟩) b.nt tcp, .slice had b.nh hcp], box b7 31 (trayL left), Chute c2 v2 y2.length]) ?_ (fun _ hkT => ?_)
          · skip
            skip
            rcases hcase2 with ⟨rfl, e1⟩ | ⟨rfl, rfl, e1⟩
            · refine en_seq <| en_region <| en_det (opT_move rfl) rfl <| ?_
              first | refine en_det (opT_not_t rfl) rfl ?_ | refine en_det (opT_not_f rfl) rfl ?_ | refine en_det (opT_not rfl) rfl ?_
              refine en_det (opT_move rfl) rfl <| en_g_no rfl rfl rfl <| en_g_no rfl rfl rfl <| en_g_no rfl rfl rfl <| ?_
              first | refine en_det (opT_pick_t rfl rfl) rfl ?_ | refine en_det (opT_pick_f rfl rfl) rfl ?_
              refine en_nil <| en_then <| en_cond_f rfl <| en_skip <| en_then <| ?_
              exact en_met () (by omega) ⟨rfl, rfl, rfl, rfl, rfl, rfl, rfl, rfl, trivial⟩ (.refl _) (tkAll _)
            · by_cases hkT : T ≤ k
              · skip
                refine en_seq <| en_region <| en_det (opT_move rfl) rfl <| ?_
                first | refine en_det (opT_not_t rfl) rfl ?_ | refine en_det (opT_not_f rfl) rfl ?_ | refine en_det (opT_not rfl) rfl ?_
                refine en_det (opT_move rfl) rfl <| en_g_yes rfl rfl <| en_det (opT_move rfl) rfl <| en_g_yes rfl rfl <| en_det (opT_move rfl) rfl <| en_g_yes rfl rfl <| en_det (opT_geq_t rfl rfl (by omega)) rfl <| ?_
                first | refine en_det (opT_pick_t rfl rfl) rfl ?_ | refine en_det (opT_pick_f rfl rfl) rfl ?_
                refine en_nil <| en_then <| en_cond_t rfl <| en_exit <| en_then_exit <| en_blk_miss rfl <| en_then_exit <| en_then_exit <| en_blk_hit <| en_then <| ?_
                exact en_met h8 s8 ⟨rfl, rfl, rfl, rfl, trivial⟩ (.refl _) (tkAll _)
              · skip
                refine en_seq <| en_region <| en_det (opT_move rfl) rfl <| ?_
                first | refine en_det (opT_not_t rfl) rfl ?_ | refine en_det (opT_not_f rfl) rfl ?_ | refine en_det (opT_not rfl) rfl ?_
                refine en_det (opT_move rfl) rfl <| en_g_yes rfl rfl <| en_det (opT_move rfl) rfl <| en_g_yes rfl rfl <| en_det (opT_move rfl) rfl <| en_g_yes rfl rfl <| en_det (opT_geq_f rfl rfl (by omega)) rfl <| ?_
                first | refine en_det (opT_pick_t rfl rfl) rfl ?_ | refine en_det (opT_pick_f rfl rfl) rfl ?_
                refine en_nil <| en_then <| en_cond_f rfl <| en_skip <| en_then <| ?_
                exact en_met () (by omega) ⟨rfl, rfl, rfl, rfl, rfl, rfl, rfl, rfl, trivial⟩ (.refl _) (tkAll _)
          · skip
            change En _ _ _ [(5, pt b5), (6, pt c2), (7, pt b7), (8, .bool cl), (10, .int .i64 tt), (105, .int .i64 b.nt), (106, .int .i64 k), (15, .int .i64 k)] h8 [box b5 26 [.slice (some ⟨tq, toff, none⟩) b.nt tcp, .slice had b.nh hcp], box b7 31 (trayL left), Chute c2 v2 y2.length]
            refine en_seq <| en_region <| en_det (opT_move rfl) rfl <| en_nil <| en_then <| en_block <| ?_
            refine en_loop (fun x : Nat × Heap => x.1 ≤ 32 ∧ h8.sub x.2) (fun x => [(5, pt b5), (6, pt c2), (7, pt b7), (8, .bool cl), (10, .int .i64 tt), (105, .int .i64 b.nt), (106, .int .i64 k), (15, .int .i64 k), (116, .int .i64 x.1)]) (fun x => x.2) (fun _ => [box b5 26 [.slice (some ⟨tq, toff, none⟩) b.nt tcp, .slice had b.nh hcp], box b7 31 (trayL left), Chute c2 v2 y2.length]) (fun x => 32 - x.1) (0, h8) ⟨by simp, .refl _⟩ ⟨rfl, rfl, rfl, rfl, rfl, rfl, rfl, rfl, rfl, trivial⟩ (.refl _) (tkAll _) fun x hx => ?_
            obtain ⟨s, h9⟩ := x
            obtain ⟨hs32, s9⟩ := hx
            simp only at hs32 s9
            change En _ _ _ [(5, pt b5), (6, pt c2), (7, pt b7), (8, .bool cl), (10, .int .i64 tt), (105, .int .i64 b.nt), (106, .int .i64 k), (15, .int .i64 k), (116, .int .i64 s)] h9 [box b5 26 [.slice (some ⟨tq, toff, none⟩) b.nt tcp, .slice had b.nh hcp], box b7 31 (trayL left), Chute c2 v2 y2.length]
            refine en_seq <| en_region <| ?_
            first | refine en_det (opT_lss_t rfl rfl (by omega)) rfl ?_ | refine en_det (opT_lss_f rfl rfl (by omega)) rfl ?_ | refine en_det (opT_lss rfl rfl) rfl ?_
            refine en_nil <| en_then <| en_seq <| ?_
            refine en_if rfl (fun hlt2 => ?_) (fun hlt2 => ?_)
            · skip
              have hsl : s < 32 := by omega
              have hbs := bits_set ⟨s, hsl⟩
              simp only at hbs
              have hin : inD (k : Int) 0 (b.nt - 1) = true := by simp only [inD, decide_eq_true_eq]; omega
              have hue : upE b left k (setI s) = 8 := by
                unfold upE
                rw [hz, if_pos rfl, if_pos hin, hbs.2, if_pos rfl, hbs.1, Int.toNat_natCast, if_pos (hno k hkT hkl s hsl)]
              refine en_skip <| en_then <| en_seq <| en_block <| en_seq <| en_region <| en_det (opT_move rfl) rfl <| en_det (opT_assign rfl) rfl <| en_nil <| en_then <| en_seq <| en_draw0 [0, 1, 2, 3, 4, 5, 6, 7, 8, 9, 10] (by kernel_rfl) (by decide +kernel) (by decide +kernel) (by decide) <| ?_
              first | refine dp_q rfl (opT_loadW_own rfl rfl) rfl rfl rfl ?_ | refine dp_q rfl (opT_loadA_own rfl) rfl rfl rfl ?_
              refine dp_q rfl (opT_loadW_own rfl (row_length _ _)) rfl rfl rfl <| dp_p rfl (fun _ _ => opT_move rfl) rfl rfl rfl <| dp_p rfl (fun _ _ => opT_move rfl) rfl rfl rfl <| ?_
              refine dp_callq (set43_ct h9 s hsl) rfl rfl rfl rfl rfl rfl rfl fun v h10 s10 hv => ?_
              refine dp_callq (heldup_ct h10 _ _ v b left k _ (B7.mono (s8.trans (s9.trans s10))) hv) rfl rfl rfl rfl rfl rfl rfl fun v' h11 s11 hv' => ?_; rw [hue] at hv'; replace hv' : v' = .tuple #[.int .i64 0, .int .i64 8] := hv'; subst hv'
              refine dp_p rfl (fun _ _ => opT_move rfl) rfl rfl rfl <| dp_p rfl (fun _ _ => opT_extract rfl rfl) rfl rfl rfl <| dp_p rfl (fun _ _ => opT_extract rfl rfl) rfl rfl rfl <| dp_p rfl (fun _ _ => opT_assign rfl) rfl rfl rfl <| dp_p rfl (fun _ _ => opT_assign rfl) rfl rfl rfl <| dp_done0 <| en_then <| en_seq <| en_region <| en_det (opT_move rfl) rfl <| en_det (opT_neq_f rfl rfl (by omega)) rfl <| en_nil <| en_then <| en_cond_f rfl <| en_skip <| en_blk <| en_then <| en_region <| en_det (opT_add rfl rfl (by constructor <;> omega)) rfl <| en_det (opT_move rfl) rfl <| en_nil <| en_then <| ?_
              exact en_again (s + 1, h11) ⟨by simp only; omega, s9.trans (s10.trans s11)⟩ (by simp only; omega) ⟨rfl, rfl, rfl, rfl, rfl, rfl, rfl, rfl, gi rfl (by simp), trivial⟩ (.refl _) inferInstance
            · skip
              refine en_exit <| en_then_exit <| en_then_exit <| en_blk_hit <| en_blk <| en_then <| en_region <| en_det (opT_add rfl rfl (by constructor <;> omega)) rfl <| en_det (opT_move rfl) rfl <| en_nil <| en_then <| ?_
              exact en_again (k + 1, h9) ⟨by simp only; omega, s8.trans s9⟩ (by simp only; omega) ⟨rfl, rfl, rfl, rfl, rfl, rfl, gi rfl (by simp), trivial⟩ (.refl _) inferInstance
        · skip
          refine en_exit <| en_then_exit <| en_then_exit <| en_blk_hit <| en_then <| ?_
          exact en_met h8 s8 ⟨rfl, rfl, rfl, rfl, trivial⟩ (.refl _) (tkAll _)
      · skip
        change En _ _ _ [(5, pt b5), (6, pt c2), (7, pt b7), (8, .bool cl)] h8 [box b5 26 [.slice (some ⟨tq, toff, none⟩) b.nt tcp, .slice had b.nh hcp], box b7 31 (trayL left), Chute c2 v2 y2.length]
        have B8 := B7.mono s8
        have z8 := z7.mono s8
        have hc0 : checkD b = 0 := check_ok.2 hk
        obtain ⟨X, hX⟩ := ruled (H := b.hand) (tray := b.tray) (order := allH b) (nt := b.nt) List.nodup_range (fun h hh t => force_nn hk t h (allH_lt b h hh)) (fun t ht m hm => (hk.tr t m ht hm).1) b.nt (Nat.le_refl _)
        have hrc := fun R => rule_clean (R := R) hk
        refine en_seq <| en_region <| ?_
        first | refine en_det (opT_loadW_own rfl rfl) rfl ?_ | refine en_det (opT_loadA_own rfl) rfl ?_
        refine en_call (run28_ct h8 _ _ b B8) rfl rfl rfl rfl fun v h9 Γ' s9 hv => ?_
        obtain ⟨rfl, ⟨_, lv, rfl, hl9⟩ | ⟨hne, _⟩⟩ := hv
        case inr => exact absurd hc0 hne
        refine en_norm ?_
        have hLb : ∀ t m, t < b.nt → m < 5 → 0 ≤ (ruleN b.hand b.tray (allH b) b.nt).1 t m ∧ (ruleN b.hand b.tray (allH b) b.nt).1 t m ≤ 14 := fun t m ht hm => by
          have hx := hX.each t ht
          have h1 := hx.nnl m hm
          have h2 := hx.left m
          have h3 : 0 ≤ sumL (allH b) (fun h => X t h m) := by
            have : sumL (allH b) (fun h => X t h m) = sumN b.nh (fun h => X t h m) := by unfold sumL allH; rw [sumN_range]
            rw [this]; exact sumN_nn fun h _ => hx.nn h m
          have h4 := hM.tr t m ht hm
          omega
        generalize (ruleN b.hand b.tray (allH b) b.nt).1 = L at hl9 hLb hrc
        clear hX
        obtain ⟨_, lad, lcp, rfl, _, _, lp⟩ := hl9
        obtain ⟨lq, loff, rfl, lcells⟩ := lp (by omega)
        refine en_det (opT_move rfl) rfl <| en_det (opT_extract rfl rfl) rfl <| en_det (opT_extract rfl rfl) rfl <| en_det (opT_assign rfl) rfl <| en_det (opT_assign rfl) rfl <| en_nil <| en_then <| en_seq <| en_seq <| en_region <| en_det (opT_move rfl) rfl <| en_det (opT_neq_f rfl rfl (by omega)) rfl <| en_det (opT_move rfl) rfl <| en_g_yes rfl rfl <| en_det (opT_move rfl) rfl <| en_g_yes rfl rfl <| en_det (opT_len rfl) rfl <| en_g_yes rfl rfl <| en_det (opT_fieldAddr rfl) rfl <| en_g_yes rfl rfl <| en_det (opT_load_own rfl rfl) rfl <| en_g_yes rfl rfl <| en_det (opT_len rfl) rfl <| en_g_yes rfl rfl <| en_det (opT_neq_f rfl rfl (by omega)) rfl <| ?_
        first | refine en_det (opT_pick_t rfl rfl) rfl ?_ | refine en_det (opT_pick_f rfl rfl) rfl ?_
        refine en_nil <| en_then <| en_cond_f rfl <| en_skip <| en_then <| en_seq <| en_region <| en_alloc rfl fun b20 => ?_
        refine en_nil <| en_then <| en_seq <| en_seq <| en_region <| en_det (opT_move rfl) rfl <| en_det (opT_len rfl) rfl <| en_det (opT_move rfl) rfl <| en_nil <| en_then <| en_block <| ?_
        refine en_loop (fun x : Nat × Heap => x.1 ≤ b.nt ∧ h9.sub x.2) (fun x => [(5, pt b5), (6, pt c2), (7, pt b7), (8, .bool cl), (20, pt b20), (147, .slice (some ⟨lq, loff, none⟩) b.nt lcp), (148, .int .i64 b.nt), (149, .int .i64 x.1)]) (fun x => x.2) (fun x => [box b20 31 (trayL (rmax L x.1)), box b5 26 [.slice (some ⟨tq, toff, none⟩) b.nt tcp, .slice had b.nh hcp], box b7 31 (trayL left), Chute c2 v2 y2.length]) (fun x => b.nt - x.1) (0, h9) ⟨by simp, .refl _⟩ ⟨rfl, rfl, rfl, rfl, rfl, rfl, rfl, rfl, trivial⟩ (.refl _) (tkAll _) fun x hx => ?_
        obtain ⟨j, h10⟩ := x
        obtain ⟨hj, s10⟩ := hx
        simp only at hj s10
        change En _ _ _ [(5, pt b5), (6, pt c2), (7, pt b7), (8, .bool cl), (20, pt b20), (147, .slice (some ⟨lq, loff, none⟩) b.nt lcp), (148, .int .i64 b.nt), (149, .int .i64 j)] h10 [box b20 31 (trayL (rmax L j)), box b5 26 [.slice (some ⟨tq, toff, none⟩) b.nt tcp, .slice had b.nh hcp], box b7 31 (trayL left), Chute c2 v2 y2.length]
        refine en_seq <| en_region <| ?_
        first | refine en_det (opT_lss_t rfl rfl (by omega)) rfl ?_ | refine en_det (opT_lss_f rfl rfl (by omega)) rfl ?_ | refine en_det (opT_lss rfl rfl) rfl ?_
        refine en_nil <| en_then <| en_seq <| ?_
        refine en_if rfl (fun hlt3 => ?_) (fun hlt3 => ?_)
        · skip
          have hjn : j < b.nt := by omega
          have hrow : CellsH h10 lq (loff + j * 5) (trayL (L j)) := (lcells.row hjn).mono s10
          refine en_skip <| en_then <| en_seq <| en_block <| en_seq <| en_region <| ?_
          first | refine en_det (opT_idx1 rfl rfl (by omega) (by omega)) rfl ?_ | refine en_det (opT_idx (ks := 0) rfl rfl (by omega) (by omega)) rfl ?_
          refine en_det (opT_loadA_h rfl hrow (row_length _ _)) rfl <| en_alloc rfl fun b22 => ?_
          refine en_det0 (opT_storeW rfl rfl rfl rfl (one_trayL (L j))) <| en_nil <| en_then <| en_seq <| en_region <| en_det (opT_loadW_own rfl (row_length _ _)) rfl <| en_det (opT_move rfl) rfl <| en_nil <| en_then <| en_block <| ?_
          have e0 : trayL (rmax L j) = trayL (rstep L j 0) := row_congr fun m _ => by simp [rstep]
          rw [e0]
          refine en_loop (fun x : Nat => x ≤ 5) (fun x => [(5, pt b5), (6, pt c2), (7, pt b7), (8, .bool cl), (20, pt b20), (147, .slice (some ⟨lq, loff, none⟩) b.nt lcp), (148, .int .i64 b.nt), (149, .int .i64 j), (153, .agg (trayL (L j)).toArray), (154, .int .i64 x)]) (fun _ => h10) (fun x => [box b20 31 (trayL (rstep L j x)), box b5 26 [.slice (some ⟨tq, toff, none⟩) b.nt tcp, .slice had b.nh hcp], box b7 31 (trayL left), Chute c2 v2 y2.length]) (fun x => 5 - x) 0 (by simp) ⟨rfl, rfl, rfl, rfl, rfl, rfl, rfl, rfl, rfl, rfl, trivial⟩ (.refl _) inferInstance fun m hm => ?_
          refine en_seq <| en_region <| ?_
          first | refine en_det (opT_lss_t rfl rfl (by omega)) rfl ?_ | refine en_det (opT_lss_f rfl rfl (by omega)) rfl ?_ | refine en_det (opT_lss rfl rfl) rfl ?_
          refine en_nil <| en_then <| en_seq <| ?_
          refine en_if rfl (fun hlt4 => ?_) (fun hlt4 => ?_)
          · skip
            have hm5 : m < 5 := by omega
            have hg : (trayL (L j))[m]? = some (.int .i64 (L j m)) := row_get hm5
            have hg2 : (trayL (rstep L j m))[m]? = some (.int .i64 (rmax L j m)) := by rw [row_get hm5]; simp [rstep]
            refine en_skip <| en_then <| en_seq <| en_block <| en_seq <| en_region <| en_det (opT_move rfl) rfl <| en_det (opT_index rfl rfl (by omega) (by omega) hg) rfl <| en_det (opT_assign rfl) rfl <| en_det (opT_assign rfl) rfl <| en_nil <| en_then <| en_region <| en_det (opT_move rfl) rfl <| en_det (opT_move rfl) rfl <| en_det (opT_idxArr rfl rfl (by omega) (by omega)) rfl <| en_det (opT_load_own rfl hg2) rfl <| en_det (opT_move rfl) rfl <| en_det (opT_max2 rfl rfl) rfl <| en_det (opT_idxArr rfl rfl (by omega) (by omega)) rfl <| en_det0 (opT_store1s rfl rfl rfl (by rw [row_length]; omega)) <| en_nil <| en_blk <| en_then <| en_region <| en_det (opT_add rfl rfl (by constructor <;> omega)) rfl <| en_det (opT_move rfl) rfl <| en_nil <| en_then <| ?_
            rw [left_set, rstep_next]
            exact en_again (m + 1) (by omega) (by omega) ⟨rfl, rfl, rfl, rfl, rfl, rfl, rfl, rfl, rfl, gi rfl (by simp), trivial⟩ (.refl _) inferInstance
          · skip
            obtain rfl : m = 5 := by omega
            rw [rstep_five]
            refine en_exit <| en_then_exit <| en_then_exit <| en_blk_hit <| en_blk <| en_then <| en_region <| en_det (opT_add rfl rfl (by constructor <;> omega)) rfl <| en_det (opT_move rfl) rfl <| en_nil <| en_then <| ?_
            exact en_again (j + 1, h10) ⟨by simp only; omega, s10⟩ (by simp only; omega) ⟨rfl, rfl, rfl, rfl, rfl, rfl, rfl, gi rfl (by simp), trivial⟩ (.refl _) inferInstance
        · skip
          obtain rfl : j = b.nt := by omega
          have hRb : piecesD (rmax L b.nt) = true := piecesD_iff.2 fun m hm => by
            have := rmax_bound (f := L) (B := 14) (by omega) (n := b.nt) (m := m) fun i hi => (hLb i m hi hm).2
            omega
          have hRz := kept_ok hk hRb
          have hRc := hrc (rmax L b.nt) fun t m ht hm => rmax_ge ht
          have cR := clean16_ct h10 _ _ b (rmax L b.nt) (B8.mono (s9.trans s10))
          rw [hRz, if_pos rfl, hRc] at cR
          generalize rmax L b.nt = R at cR ⊢
          refine en_exit <| en_then_exit <| en_then_exit <| en_blk_hit <| en_then <| en_seq <| en_seq <| en_region <| ?_
          first | refine en_det (opT_loadW_own rfl rfl) rfl ?_ | refine en_det (opT_loadA_own rfl) rfl ?_
          refine en_det (opT_loadW_own rfl (row_length _ _)) rfl <| ?_
          refine en_call cR rfl rfl rfl rfl fun v h11 Γ' s11 hv => ?_
          obtain ⟨rfl, rfl⟩ := hv
          refine en_norm ?_
          refine en_keep [box b5 26 [.slice (some ⟨tq, toff, none⟩) b.nt tcp, .slice had b.nh hcp], box b7 31 (trayL left), Chute c2 v2 y2.length] ?_
          refine en_det (opT_move rfl) rfl <| en_det (opT_extract rfl rfl) rfl <| en_det (opT_extract rfl rfl) rfl <| en_det (opT_assign rfl) rfl <| en_det (opT_assign rfl) rfl <| en_nil <| en_then <| en_seq <| en_region <| en_det (opT_move rfl) rfl <| en_det (opT_neq_f rfl rfl (by omega)) rfl <| en_det (opT_move rfl) rfl <| en_g_yes rfl rfl <| en_det (opT_move rfl) rfl <| en_g_yes rfl rfl <| ?_
          first | refine en_det (opT_not_t rfl) rfl ?_ | refine en_det (opT_not_f rfl) rfl ?_ | refine en_det (opT_not rfl) rfl ?_
          first | refine en_det (opT_pick_t rfl rfl) rfl ?_ | refine en_det (opT_pick_f rfl rfl) rfl ?_
          refine en_nil <| en_then <| en_cond_f rfl <| en_skip <| en_then <| en_seq <| en_region <| en_det (opT_loadW_own rfl (row_length _ _)) rfl <| en_alloc rfl fun b27 => ?_
          refine en_det0 (opT_storeW rfl rfl rfl rfl (one_trayL left)) <| en_nil <| en_then <| en_seq <| en_seq <| en_region <| en_det (opT_move rfl) rfl <| en_nil <| en_then <| en_block <| ?_
          have s811 := s9.trans (s10.trans s11)
          have z11 := z8.mono s811
          have B11 := B8.mono s811
          refine en_loop (fun x : Nat × (Nat → Int) × Heap => x.1 ≤ 5 ∧ h11.sub x.2.2 ∧ ∀ m, left m ≤ x.2.1 m ∧ x.2.1 m ≤ left m + (if m < x.1 then 4 else 0)) (fun x => [(5, pt b5), (6, pt c2), (8, .bool cl), (27, pt b27), (180, .int .i64 x.1)]) (fun x => x.2.2) (fun x => [box b27 31 (trayL x.2.1), box b5 26 [.slice (some ⟨tq, toff, none⟩) b.nt tcp, .slice had b.nh hcp], box b7 31 (trayL left), Chute c2 v2 y2.length]) (fun x => 5 - x.1) (0, left, h11) ⟨by simp, .refl _, fun m => by simp⟩ ⟨rfl, rfl, rfl, rfl, rfl, trivial⟩ (.refl _) (tkAll _) fun x hx => ?_
          obtain ⟨m, l', h12⟩ := x
          obtain ⟨hm, s12, hl'⟩ := hx
          simp only at hm s12 hl'
          change En _ _ _ [(5, pt b5), (6, pt c2), (8, .bool cl), (27, pt b27), (180, .int .i64 m)] h12 [box b27 31 (trayL l'), box b5 26 [.slice (some ⟨tq, toff, none⟩) b.nt tcp, .slice had b.nh hcp], box b7 31 (trayL left), Chute c2 v2 y2.length]
          refine en_seq <| en_region <| ?_
          first | refine en_det (opT_lss_t rfl rfl (by omega)) rfl ?_ | refine en_det (opT_lss_f rfl rfl (by omega)) rfl ?_ | refine en_det (opT_lss rfl rfl) rfl ?_
          refine en_nil <| en_then <| en_seq <| ?_
          refine en_if rfl (fun hlt5 => ?_) (fun hlt5 => ?_)
          · skip
            have hm5 : m < 5 := by omega
            have hg : (trayL l')[m]? = some (.int .i64 (l' m)) := row_get hm5
            have h3 := hleft m hm5
            have h4 := hl' m
            rw [if_neg (by omega)] at h4
            refine en_skip <| en_then <| en_seq <| en_block <| en_seq <| en_region <| en_det (opT_move rfl) rfl <| en_det (opT_assign rfl) rfl <| en_nil <| en_then <| en_draw0 [0, 1, 2, 3, 4, 5, 6, 7] (by kernel_rfl) (by decide +kernel) (by decide +kernel) (by decide) <| dp_p rfl (fun _ _ => opT_move rfl) rfl rfl rfl <| dp_p rfl (fun _ _ => opT_idxArr rfl rfl (by omega) (by omega)) rfl rfl rfl <| dp_q rfl (opT_load_own rfl hg) rfl rfl rfl <| dp_p rfl (fun _ _ => opT_move rfl) rfl rfl rfl <| ?_
            refine dp_callq (pull_ct h12 c2 v2 y2 5 (z11.mono s12) (by omega)) rfl rfl rfl rfl rfl rfl rfl fun v h13 s13 hv => ?_; obtain ⟨r, rfl, hr0, _, hr2⟩ := hv; replace hr2 := hr2 (by omega)
            refine dp_p rfl (fun _ _ => opT_add rfl rfl (by constructor <;> omega)) rfl rfl rfl <| dp_p rfl (fun _ _ => opT_idxArr rfl rfl (by omega) (by omega)) rfl rfl rfl <| dp_td0 rfl (opT_store1s rfl rfl rfl (by rw [row_length]; omega)) rfl rfl rfl rfl rfl <| dp_done0 <| en_blk <| en_then <| en_region <| en_det (opT_add rfl rfl (by constructor <;> omega)) rfl <| en_det (opT_move rfl) rfl <| en_nil <| en_then <| ?_
            rw [left_set]
            refine en_again (m + 1, (fun j => if j = m then l' m + r else l' j), h13) ⟨by simp only; omega, s12.trans s13, fun j => ?_⟩ (by simp only; omega) ⟨rfl, rfl, rfl, rfl, gi rfl (by simp), trivial⟩ (.refl _) inferInstance
            simp only
            have h5 := hl' j
            by_cases e : j = m
            · subst e
              simp only [if_true]
              rw [if_pos (by omega)]; omega
            · simp only [e, if_false]
              by_cases h6 : j < m
              · rw [if_pos (by omega)]; rw [if_pos h6] at h5; exact h5
              · rw [if_neg (by omega)]; rw [if_neg h6] at h5; exact h5
          · skip
            obtain rfl : m = 5 := by omega
            have hlp : piecesD l' = true := piecesD_iff.2 fun m hm => by
              have h3 := hleft m hm
              have h4 := hl' m
              rw [if_pos hm] at h4; omega
            have hlz := kept_ok hk hlp
            have hcm := clean_more hk (left := left) (l' := l') fun m _ => (hl' m).1
            rw [hcl] at hcm
            have cM := clean16_ct h12 _ _ b l' (B11.mono s12)
            rw [hlz, if_pos rfl] at cM
            generalize cleanB b (keptD l') (allH b) = wide at hcm cM
            refine en_exit <| en_then_exit <| en_then_exit <| en_blk_hit <| en_then <| en_seq <| en_region <| ?_
            first | refine en_det (opT_loadW_own rfl rfl) rfl ?_ | refine en_det (opT_loadA_own rfl) rfl ?_
            refine en_det (opT_loadW_own rfl (row_length _ _)) rfl <| ?_
            refine en_call cM rfl rfl rfl rfl fun v h13 Γ' s13 hv => ?_
            obtain ⟨rfl, rfl⟩ := hv
            refine en_norm ?_
            have hall := s1.trans (s2.trans (s3.trans (s4.trans (s5.trans (s6.trans (s7.trans (s8.trans (s811.trans (s12.trans s13)))))))))
            skip
            cases cl with
            | true =>
              have := hcm rfl
              subst this
              refine en_det (opT_move rfl) rfl <| en_det (opT_extract rfl rfl) rfl <| en_det (opT_extract rfl rfl) rfl <| en_det (opT_assign rfl) rfl <| en_det (opT_assign rfl) rfl <| en_nil <| en_then <| en_seq <| en_region <| en_det (opT_move rfl) rfl <| en_det (opT_eql_t rfl rfl (by omega)) rfl <| en_det (opT_move rfl) rfl <| en_g_yes rfl rfl <| en_det (opT_move rfl) rfl <| en_g_yes rfl rfl <| ?_
              first | refine en_det (opT_not_t rfl) rfl ?_ | refine en_det (opT_not_f rfl) rfl ?_ | refine en_det (opT_not rfl) rfl ?_
              refine en_g_yes rfl rfl <| en_det (opT_move rfl) rfl <| en_g_yes rfl rfl <| en_det (opT_move rfl) rfl <| en_g_yes rfl rfl <| ?_
              first | refine en_det (opT_pick_t rfl rfl) rfl ?_ | refine en_det (opT_pick_f rfl rfl) rfl ?_
              first | refine en_det (opT_pick_t rfl rfl) rfl ?_ | refine en_det (opT_pick_f rfl rfl) rfl ?_
              refine en_det (opT_move rfl) rfl <| en_g_yes rfl rfl <| ?_
              refine en_call (awake_ct h13) rfl rfl rfl rfl fun v h14 Γ' s14 hv => ?_
              obtain ⟨rfl, rfl⟩ := hv
              refine en_norm ?_
              first | refine en_det (opT_pick_t rfl rfl) rfl ?_ | refine en_det (opT_pick_f rfl rfl) rfl ?_
              refine en_det (opT_assign rfl) rfl <| en_nil <| en_then <| en_ret <| ?_
              refine en_return (rs := [.tmp 4]) rfl (.cons (.tmp rfl) .nil) (hall.trans s14) (Γ1 := []) ⟨rfl, rfl⟩
            | false =>
              refine en_det (opT_move rfl) rfl <| en_det (opT_extract rfl rfl) rfl <| en_det (opT_extract rfl rfl) rfl <| en_det (opT_assign rfl) rfl <| en_det (opT_assign rfl) rfl <| en_nil <| en_then <| en_seq <| en_region <| en_det (opT_move rfl) rfl <| en_det (opT_eql_t rfl rfl (by omega)) rfl <| en_det (opT_move rfl) rfl <| en_g_yes rfl rfl <| en_det (opT_move rfl) rfl <| en_g_yes rfl rfl <| ?_
              first | refine en_det (opT_not_t rfl) rfl ?_ | refine en_det (opT_not_f rfl) rfl ?_ | refine en_det (opT_not rfl) rfl ?_
              refine en_g_yes rfl rfl <| en_det (opT_move rfl) rfl <| en_g_no rfl rfl rfl <| en_g_yes rfl rfl <| ?_
              first | refine en_det (opT_pick_t rfl rfl) rfl ?_ | refine en_det (opT_pick_f rfl rfl) rfl ?_
              first | refine en_det (opT_pick_t rfl rfl) rfl ?_ | refine en_det (opT_pick_f rfl rfl) rfl ?_
              refine en_det (opT_move rfl) rfl <| en_g_yes rfl rfl <| ?_
              refine en_call (awake_ct h13) rfl rfl rfl rfl fun v h14 Γ' s14 hv => ?_
              obtain ⟨rfl, rfl⟩ := hv
              refine en_norm ?_
              first | refine en_det (opT_pick_t rfl rfl) rfl ?_ | refine en_det (opT_pick_f rfl rfl) rfl ?_
              refine en_det (opT_assign rfl) rfl <| en_nil <| en_then <| en_ret <| ?_
              refine en_return (rs := [.tmp 4]) rfl (.cons (.tmp rfl) .nil) (hall.trans s14) (Γ1 := []) ⟨rfl, rfl⟩
end Go.Sx

/- Slices of slices; an append within one array; clear. -/
namespace Go.Sx
section
variable {P : Program} {n : Nat} {ρ : Env} {h : Heap} {Γ Δ : List HP} {G : List Value → List HP} {d : Option Nat} {ty : TypeId} {pos : String} {af : Array Edge} {gd : Option (Nat × Bool)} {x y lo hi mx : Operand} {T e : TypeId} {zs cs : List Value} {sz by_ : Nat}
theorem run_bound {w : World} {k : IntKind} {i : Int} {y : Nat} {c : BoundsCode} (h0 : 0 ≤ i) (h1 : i ≤ y) : (Instr.sliceBound (.int k i) y c).run P w = .ok i.toNat w := by
  simp [Instr.sliceBound, asIntOf, Sem.run, pure, bind, Sem.bind, h0, h1]
/-- 's[l:h:m]', whatever it is. -/
theorem opT_sl3 {ad : Option Addr} {len cap : Nat} {l r m : Int} {k1 k2 k3 : IntKind} [hT : Ty P T (.slice e)] [hI : Info P e zs sz by_] (hx : ρ.ev x = some (.slice ad len cap)) (hl : ρ.ev lo = some (.int k1 l)) (hr : ρ.ev hi = some (.int k2 r)) (hm : ρ.ev mx = some (.int k3 m)) (h0 : 0 ≤ l) (h1 : l ≤ r) (h2 : r ≤ m) (h3 : m ≤ cap) :
    OpT P n ⟨d, .slice T x (some lo) (some hi) (some mx), ty, pos, af, gd⟩ ρ h Γ (Det (.slice (if m.toNat = l.toNat then ad else ad.map (·.add (l.toNat * sz))) (r.toNat - l.toNat) (m.toNat - l.toNat)) h Γ) :=
  opT_pure (by simp) fun a en w => by
    have b1 := run_bound (P := P) (w := w) (k := k3) (i := m) (y := cap) (c := .slice3Acap) (by omega) h3
    have b2 := run_bound (P := P) (w := w) (k := k2) (i := r) (y := m.toNat) (c := .slice3B) (by omega) (by omega)
    have b3 := run_bound (P := P) (w := w) (k := k1) (i := l) (y := r.toNat) (c := .slice3C) h0 (by omega)
    simp [execOp, en.ev hx, en.ev hl, en.ev hr, en.ev hm, Instr.sliceAt, Instr.slice, run_und hT.und, Instr.sliceBounds, b1, b2, b3, run_size hI, Sem.run, pure]
/-- 's[:h]' -/
theorem opT_slH {b off len cap : Nat} {r : Int} {k : IntKind} [hT : Ty P T (.slice e)] [hI : Info P e zs sz by_] (hx : ρ.ev x = some (.slice (some ⟨b, off, none⟩) len cap)) (hr : ρ.ev hi = some (.int k r)) (h0 : 0 ≤ r) (h1 : r ≤ cap) :
    OpT P n ⟨d, .slice T x none (some hi) none, ty, pos, af, gd⟩ ρ h Γ (Det (.slice (some ⟨b, off, none⟩) r.toNat cap) h Γ) :=
  opT_pure (by simp) fun a en w => by
    have b2 := run_bound (P := P) (w := w) (k := k) (i := r) (y := cap) (c := .sliceAcap) h0 h1
    simp [execOp, en.ev hx, en.ev hr, Instr.sliceAt, Instr.slice, run_und hT.und, Instr.sliceBounds, b2, run_size hI, addr_add, Sem.run, pure]
/-- 's[l:]' -/
theorem opT_slL {b off len cap : Nat} {l : Int} {k : IntKind} [hT : Ty P T (.slice e)] [hI : Info P e zs sz by_] (hx : ρ.ev x = some (.slice (some ⟨b, off, none⟩) len cap)) (hl : ρ.ev lo = some (.int k l)) (h0 : 0 ≤ l) (h1 : l ≤ len) :
    OpT P n ⟨d, .slice T x (some lo) none none, ty, pos, af, gd⟩ ρ h Γ (Det (.slice (if cap = l.toNat then some ⟨b, off, none⟩ else some ⟨b, off + l.toNat * sz, none⟩) (len - l.toNat) (cap - l.toNat)) h Γ) :=
  opT_pure (by simp) fun a en w => by
    have b2 := run_bound (P := P) (w := w) (k := k) (i := l) (y := len) (c := .sliceB) h0 h1
    simp [execOp, en.ev hx, en.ev hl, Instr.sliceAt, Instr.slice, run_und hT.und, Instr.sliceBounds, b2, run_size hI, addr_add, Sem.run, pure]
/-- 's[l:h]' -/
theorem opT_slLH {b off len cap : Nat} {l r : Int} {k1 k2 : IntKind} [hT : Ty P T (.slice e)] [hI : Info P e zs sz by_] (hx : ρ.ev x = some (.slice (some ⟨b, off, none⟩) len cap)) (hl : ρ.ev lo = some (.int k1 l)) (hr : ρ.ev hi = some (.int k2 r)) (h0 : 0 ≤ l) (h1 : l ≤ r) (h2 : r ≤ cap) :
    OpT P n ⟨d, .slice T x (some lo) (some hi) none, ty, pos, af, gd⟩ ρ h Γ (Det (.slice (if cap = l.toNat then some ⟨b, off, none⟩ else some ⟨b, off + l.toNat * sz, none⟩) (r.toNat - l.toNat) (cap - l.toNat)) h Γ) :=
  opT_pure (by simp) fun a en w => by
    have b1 := run_bound (P := P) (w := w) (k := k2) (i := r) (y := cap) (c := .sliceAcap) (by omega) h2
    have b2 := run_bound (P := P) (w := w) (k := k1) (i := l) (y := r.toNat) (c := .sliceB) h0 (by omega)
    simp [execOp, en.ev hx, en.ev hl, en.ev hr, Instr.sliceAt, Instr.slice, run_und hT.und, Instr.sliceBounds, b1, b2, run_size hI, addr_add, Sem.run, pure]
/-- 'append(s[:m], s[..]...)' where there is room: within one array. -/
theorem opT_app_in {b m cap k c2 off : Nat} {news : List Value} {a2 : Option Addr} [hT : Ty P T (.slice e)] [hI : Info P e zs sz by_] [u : Upd Γ b e cs Δ G] (hx : ρ.ev x = some (.slice (some ⟨b, 0, none⟩) m cap)) (hy : ρ.ev y = some (.slice a2 k c2)) (ha : 0 < k → a2 = some ⟨b, off, none⟩)
    (hn : (cs.drop off).take (k * sz) = news) (hnl : news.length = k * sz) (h1 : ∀ q ∈ news, q.oneCell' = true) (hroom : m + k ≤ cap) (hfit : m * sz + news.length ≤ cs.length) (hoff : off + k * sz ≤ cs.length) :
    OpT P n ⟨d, .call { callee := .builtin .append, args := #[x, y], argTypes := #[T, T] }, ty, pos, af, gd⟩ ρ h Γ (Det (.slice (some ⟨b, 0, none⟩) (m + k) cap) h (G (cs.take (m * sz) ++ news ++ cs.drop (m * sz + news.length)))) :=
  opT_run (by simp) fun Φ a w en s => by
    obtain ⟨i, z, hi1, hi2, hi3, hi4, hi5⟩ := hI.inf
    have hb := s.upd u
    have hrun : ∀ q w', (Builtin.append_ #[T, T] ty #[.slice (some ⟨b, 0, none⟩) m cap, .slice a2 k c2]).run P w = .ok q w' → (execOp a.eval ⟨d, .call { callee := .builtin .append, args := #[x, y], argTypes := #[T, T] }, ty, pos, af, gd⟩).run P w = .ok (.value q) w' := fun q w' hr => by
      simp only [execOp, resolve, invoke, builtin, Sem.run_bind, Sem.run_pure, Result.andThen_ok, List.map_toArray, List.map_cons, List.map_nil, en.ev hx, en.ev hy, hr]
    refine ⟨_, w.setRow b (cs.take (m * sz) ++ news ++ cs.drop (m * sz + news.length)).toArray, h, _, hrun _ _ ?_, .refl _, ⟨rfl, rfl, rfl⟩, s.write u _ (setRow_heap w b _ _ e (0, 0) hb) (fun k hk => setRow_other w b k _ hk) (setRow_env _ _ _)⟩
    by_cases hk0 : k = 0
    · subst hk0
      have hnil : news = [] := List.eq_nil_of_length_eq_zero (by simpa using hnl)
      subst hnil
      have hself : w.setRow b (cs.take (m * sz) ++ [] ++ cs.drop (m * sz + ([] : List Value).length)).toArray = w := by
        simp only [List.append_nil, List.length_nil, Nat.add_zero, List.take_append_drop]
        exact setRow_self w b cs.toArray e (0, 0) hb
      rw [hself]
      have hmc : m ≤ cap := by omega
      cases a2 <;> simp [Builtin.append_, run_und hT.und, run_size hI, Builtin.lenOf, Builtin.firstCells, loadCells, loadCellsFrom, hmc, storeCells, Sem.run, pure]
    · have ha2 := ha (by omega)
      subst ha2
      have hcells : ∀ j q, news[j]? = some q → w.cell? ((⟨b, off, none⟩ : Addr).add j) = some q := fun j q hj => by
        rw [addr_add, cell_upd u s]
        rw [← hn, List.getElem?_take, List.getElem?_drop] at hj
        split at hj
        · exact hj
        · cases hj
      have hr := run_append_room (P := P) w T ty e i hT.und hi1 b m cap cs.toArray hb ⟨b, off, none⟩ k c2 news (by rw [hi4]; exact hnl) hcells h1 hroom (by rw [hi4]; simpa using hfit)
      rw [hr, hi4]
/-- 'clear(s)' of one element. -/
theorem opT_clear1 {b off c : Nat} [hT : Ty P T (.slice e)] [hI : Info P e zs sz by_] [u : Upd Γ b e cs Δ G] (hx : ρ.ev x = some (.slice (some ⟨b, off, none⟩) 1 c)) (h1 : zs.all Value.oneCell' = true) (hfit : off + sz ≤ cs.length) :
    OpT P n ⟨none, .call { callee := .builtin .clear, args := #[x], argTypes := #[T] }, ty, pos, af, gd⟩ ρ h Γ (fun _ h' Γ' => h' = h ∧ ∃ us, us.length = sz ∧ Γ' = G (cs.take off ++ us ++ cs.drop (off + us.length))) :=
  opT_run (by simp) fun Φ a w en s => by
    obtain ⟨z, hz, hzr⟩ := run_zero (P := P) (w := w) hI
    have hb := s.upd u
    have hzl : z.cells.size = sz := by rw [hz]; simp [hI.len]
    have hlen : (Builtin.zeroCells z.cells 1).toList.length = sz := by rw [Array.length_toList, size_zeroCells, hzl]; omega
    have hone : ∀ q ∈ (Builtin.zeroCells z.cells 1).toList, q.oneCell' = true := fun q hq => by
      have he : (Builtin.zeroCells z.cells 1).toList = zs := by
        apply List.ext_getElem?
        intro j
        by_cases hj : j < sz
        · have hj2 : j < zs.length := by rw [hI.len]; exact hj
          have hm : j % zs.length = j := Nat.mod_eq_of_lt hj2
          simp [Builtin.zeroCells, hz, hj2, hm, Array.getElem!_eq_getD]
        · rw [List.getElem?_eq_none (by rw [hlen]; omega), List.getElem?_eq_none (by rw [hI.len]; omega)]
      rw [he] at hq
      exact List.all_eq_true.1 h1 q hq
    have hst := run_storeCells_at P b off e (Builtin.zeroCells z.cells 1).toList 0 cs.toArray w hb (by simp only [Nat.add_zero, hlen, List.size_toArray]; exact hfit) hone
    simp only [Nat.add_zero] at hst
    refine ⟨.tuple #[], w.setRow b (cs.take off ++ (Builtin.zeroCells z.cells 1).toList ++ cs.drop (off + (Builtin.zeroCells z.cells 1).toList.length)).toArray, h, _, ?_, .refl _, ⟨rfl, _, hlen, rfl⟩, s.write u _ (setRow_heap w b _ _ e (0, 0) hb) (fun k hk => setRow_other w b k _ hk) (setRow_env _ _ _)⟩
    simp only [execOp, resolve, invoke, builtin, Sem.run_bind, Sem.run_pure, Result.andThen_ok, List.map_toArray, List.map_cons, List.map_nil, en.ev hx]
    simp [Builtin.clear_, run_und hT.und, hzr, hst, Sem.run, pure]
end
theorem rows_split (p q w : Nat) (f : Nat → Nat → Value) : rows (p + q) w f = rows p w f ++ rows q w (fun a => f (a + p)) := by
  induction q with
  | zero => simp [rows_zero]
  | succ q ih =>
    rw [show p + (q + 1) = (p + q) + 1 by omega, rows_succ, ih, rows_succ, List.append_assoc]
    rw [show q + p = p + q by omega]
end Go.Sx

/- A belt without a hand: plain. -/
namespace Go.Sx
def skip (i a : Nat) : Nat := if a < i then a else a + 1
def delB (b : BeltD) (i : Nat) : BeltD := ⟨b.nt, b.tray, b.nh - 1, fun a => b.hand (skip i a)⟩
theorem skip_lt {i a n : Nat} (hi : i < n) (ha : a < n - 1) : skip i a < n := by unfold skip; split <;> omega
theorem skip_ne (i a : Nat) : skip i a ≠ i := by unfold skip; split <;> omega
theorem delB_ok {b : BeltD} (hk : BOK b) {i : Nat} (hi : i < b.nh) : BOK (delB b i) :=
  ⟨hk.n1, hk.n8, by show b.nh - 1 ≤ 5; have := hk.h5; omega, hk.tr, fun a ha => hk.ok _ (skip_lt hi ha), fun a ha => hk.sl _ (skip_lt hi ha), fun a ha => hk.re _ (skip_lt hi ha), fun a ha => hk.ri _ (skip_lt hi ha)⟩
theorem sumN_skip {n i : Nat} (hi : i < n) (f : Nat → Int) : sumN n f = sumN (n - 1) (fun a => f (skip i a)) + f i := by
  induction n with
  | zero => omega
  | succ n ih =>
    by_cases e : i = n
    · subst e
      simp only [sumN, Nat.add_sub_cancel]
      congr 1
      exact sumN_congr fun a ha => by unfold skip; rw [if_pos ha]
    · have h1 := ih (by omega)
      obtain ⟨m, rfl⟩ : ∃ m, n = m + 1 := ⟨n - 1, by omega⟩
      simp only [sumN, Nat.add_sub_cancel] at h1 ⊢
      rw [h1]
      have : skip i m = m + 1 := by unfold skip; rw [if_neg (by omega)]
      rw [this]; omega
def hitF (b : BeltD) (t s i : Nat) : Int := if anyT (takesB b i) s = true then forceB b t i else 0
theorem beh_sum (b : BeltD) (t s : Nat) : behL b.nh (takesB b) (forceB b t) (allH b) s = sumN b.nh (hitF b t s) := by
  show behL b.nh _ _ (List.range b.nh) s = _
  rw [behL_all]; rfl
theorem cut_del {b : BeltD} {i : Nat} (hi : i < b.nh) (t s : Nat) : cutB b t s = cutB (delB b i) t s + hitF b t s i := by
  unfold cutB
  rw [beh_sum, beh_sum, sumN_skip hi]
  show sumN (b.nh - 1) (fun a => hitF b t s (skip i a)) + hitF b t s i + exS s (b.tray t) = sumN (b.nh - 1) (fun a => hitF b t s (skip i a)) + exS s (b.tray t) + hitF b t s i
  omega
theorem hitF_rng {b : BeltD} (hk : BOK b) {i : Nat} (hi : i < b.nh) (t s : Nat) : 0 ≤ hitF b t s i ∧ hitF b t s i ≤ forceD (b.hand i) t := by
  have := force_nn hk t i hi
  unfold hitF
  split
  · exact ⟨this, Int.le_refl _⟩
  · exact ⟨Int.le_refl _, this⟩
def lossD (b : BeltD) (i : Nat) : Int := mostA b - mostA (delB b i)
def forces (b : BeltD) (i : Nat) : Int := sumN b.nt fun t => forceD (b.hand i) t
theorem loss_nn {b : BeltD} (hk : BOK b) {i : Nat} (hi : i < b.nh) : 0 ≤ lossD b i := by
  have := mostA_mono (delB_ok hk hi) hk rfl fun t _ s => by have := cut_del (b := b) hi t s; have := hitF_rng hk hi t s; omega
  unfold lossD; omega
theorem loss_le {b : BeltD} (hk : BOK b) {i : Nat} (hi : i < b.nh) : lossD b i ≤ forces b i := by
  have : mostA b ≤ mostA (delB b i) + forces b i := by
    unfold mostA forces
    rw [show (delB b i).nt = b.nt from rfl, ← sumN_add]
    refine sumN_le fun t ht => ?_
    exact mostT_mono hk (delB_ok hk hi) ht ht fun s => by have := cut_del (b := b) hi t s; have := hitF_rng hk hi t s; omega
  unfold lossD; omega
theorem loss_none {b : BeltD} (hk : BOK b) {i : Nat} (hi : i < b.nh) (hn : ∀ m, m < 5 → (b.hand i).takes m = false) : lossD b i = 0 := by
  have h0 := loss_nn hk hi
  have hz : ∀ t s, hitF b t s i = 0 := fun t s => by
    unfold hitF
    have : ¬ anyT (takesB b i) s = true := fun h => by
      obtain ⟨m, hm, _, ht⟩ := anyT_iff.1 h
      have := hn m hm
      rw [show takesB b i m = (b.hand i).takes m from rfl, this] at ht; cases ht
    rw [if_neg this]
  have : mostA b ≤ mostA (delB b i) := mostA_mono hk (delB_ok hk hi) rfl fun t _ s => by have := cut_del (b := b) hi t s; have := hz t s; omega
  unfold lossD at *; omega
/-- All hands together lose no more than the most. -/
theorem loss_tray {b : BeltD} (hk : BOK b) {i : Nat} (hi : i < b.nh) {t : Nat} (ht : t < b.nt) : mostT b t - mostT (delB b i) t ≤ sum5 ((shB b wholeD t (allH b)).1 i) := by
  have ok := out_ok b hk wholeD t (allH b) (allH_lt b)
  have htot := shareS_tot (takes := takesB b) hk.h5 (allH_lt b) (force_nn hk t) (fun m => (wholeD (b.tray t) m).toNat) 5 (Nat.le_refl _)
  have e0 : shareS (takesB b) (forceB b t) (allH b) (fun m => (wholeD (b.tray t) m).toNat) 5 = shB b wholeD t (allH b) := rfl
  rw [e0] at htot
  have hm : mostT b t = sumN b.nh (fun h => sum5 ((shB b wholeD t (allH b)).1 h)) := rfl
  generalize (shB b wholeD t (allH b)).1 = x at ok htot hm ⊢
  have hdk := delB_ok hk hi
  have ok' : OutOK (delB b i).nh (takesB (delB b i)) (forceB (delB b i) t) (fun a => x (skip i a)) := ⟨fun a o ha ho => ok.pos _ o (skip_lt hi ha) ho, fun a ha => ok.le _ (skip_lt hi ha), fun a o ha ho hp => ok.tk _ o (skip_lt hi ha) ho hp⟩
  have h1 := share_le (hands := allH (delB b i)) ok' (fun h hh hn m _ => absurd (by simpa [allH] using hh) hn) (w := (delB b i).tray t) (fun m hm5 => by
    have h2 := htot m
    have h3 : tot b.nh x m = tot (b.nh - 1) (fun a => x (skip i a)) m + x i m := sumN_skip hi (fun h => x h m)
    have h4 := ok.pos i m hi hm5
    have h5 := hk.tr t m ht hm5
    have h6 : (((wholeD (b.tray t) m).toNat : Nat) : Int) = b.tray t m := by unfold wholeD; omega
    show tot (b.nh - 1) (fun a => x (skip i a)) m ≤ b.tray t m
    omega) (heldB (delB b i) wholeD t (allH (delB b i)))
  have h2 := most_eq hdk (t := t) ht
  have h3 : sumN b.nh (fun h => sum5 (x h)) = sumN (b.nh - 1) (fun a => sum5 (x (skip i a))) + sum5 (x i) := sumN_skip hi (fun h => sum5 (x h))
  have h4 : sumN (delB b i).nh (fun h => sum5 ((fun a => x (skip i a)) h)) = sumN (b.nh - 1) (fun a => sum5 (x (skip i a))) := rfl
  rw [h4] at h1
  unfold cutB at h2
  omega
theorem loss_all {b : BeltD} (hk : BOK b) : sumN b.nh (lossD b) ≤ mostA b := by
  have h1 : sumN b.nh (lossD b) ≤ sumN b.nh (fun i => sumN b.nt fun t => sum5 ((shB b wholeD t (allH b)).1 i)) := sumN_le fun i hi => by
    unfold lossD mostA
    rw [show (delB b i).nt = b.nt from rfl, ← sumN_sub]
    exact sumN_le fun t ht => loss_tray hk hi ht
  have h2 : sumN b.nh (fun i => sumN b.nt fun t => sum5 ((shB b wholeD t (allH b)).1 i)) = mostA b := by
    rw [sumN_swap]; rfl
  omega
end Go.Sx

/- A hand left out; what is lost without it. -/
namespace Go.Sx
open Go.Proofs
set_option maxRecDepth 100000
theorem one_rowsH {n : Nat} {H : Nat → HandD} {rv : Nat → Value} (hr : ∀ i, i < n → (rv i).oneCell' = true) : ∀ q ∈ rows n 9 (fun i => hcell (H i) (rv i)), q.oneCell' = true := by
  intro q hq
  simp only [rows, List.mem_map, List.mem_range] at hq
  obtain ⟨k, hk, rfl⟩ := hq
  have := hr (k / 9) (by omega)
  unfold hcell
  repeat' split
  all_goals first | rfl | exact this
theorem one_zero41 : ([.bool false, .bool false, .bool false, .bool false, .bool false, .int .i64 0, .int .i64 0, .int .i64 0, .slice none 0 0] : List Value).all Value.oneCell' = true := rfl
attribute [local irreducible] Code.wpIn wpListIn Exit.then Exit.inBlock BQ Again Hd St En OpT box blk RQ BQ0 fmap own Desk Chute
theorem clone102_ct (h : Heap) (v : Value) (m : Nat) (xs : List Value) (hv : SlH h 9 v m xs) (h1 : ∀ q ∈ xs, q.oneCell' = true) (hm : m ≤ 1000) : CT Try.prog 102 [v] h []
    (fun v' _ Γ' => ∃ ad cp, v' = .slice ad m cp ∧ Γ' = [own 41 9 (.slice ad m cp) m xs]) := by
  have hv0 := hv
  obtain ⟨hl, ad, cp, rfl, hmc, hc, hp⟩ := hv
  refine ct_intro Try.func102 rfl rfl rfl rfl fun Φ => ?_
  skip
  cases ad with
  | none =>
    have h0 : m = 0 := by
      rcases Nat.eq_zero_or_pos m with e | e
      · exact e
      · obtain ⟨b, off, e2, _⟩ := hp e; cases e2
    subst h0
    have hx : xs = [] := List.eq_nil_of_length_eq_zero (by omega)
    subst hx
    refine en_own_nil 41 9 ?_
    refine en_seq <| en_region <| en_det (opT_assign rfl) rfl <| en_nil <| en_then <| en_seq <| en_seq <| en_region <| en_det (opT_move rfl) rfl <| en_det (opT_eqNil rfl rfl) rfl <| en_nil <| en_then <| en_cond_t rfl <| en_seq <| en_region <| en_det (opT_assign rfl) rfl <| en_nil <| en_then <| en_ret <| en_then_ret <| ?_
    refine en_return (rs := [.tmp 2]) rfl (.cons (.tmp rfl) .nil) (.refl _) ⟨none, 0, rfl, rfl⟩
  | some ad =>
    refine en_seq <| en_region <| en_det (opT_assign rfl) rfl <| en_nil <| en_then <| en_seq <| en_seq <| en_region <| en_det (opT_move rfl) rfl <| en_det (opT_eqNil rfl rfl) rfl <| en_nil <| en_then <| en_cond_f rfl <| en_skip <| en_then <| en_seq <| en_region <| ?_
    refine en_op (opT_buildSlice (cs := []) rfl rfl (by kernel_rfl)) rfl fun _ _ _ _ ⟨b5, e1, e2, e3⟩ => ?_
    subst e1 e3; replace e2 := e2.symm; subst e2
    refine en_to_own 9 0 0 (by omega) (by omega) rfl ?_
    rw [show (List.take (0 * 9) ([] : List Value)) = [] from rfl]
    refine en_det (opT_move rfl) rfl <| ?_
    refine en_op (opT_shape (opT_append (m := 0) (k := m) (xs := []) (news := xs) (sz := 9) (e := 41) (Δ := []) (v := .slice (some ⟨b5, 0, none⟩) 0 0) rfl rfl (src_h hv0) h1 (by omega) (by omega) (by omega))) rfl fun v7 _ _ _ hv7 => ?_
    obtain ⟨ad7, cp7, rfl, _, _, e1, rfl⟩ := hv7
    replace e1 := e1.symm; subst e1
    rw [Nat.zero_add, List.nil_append]
    refine en_det (opT_assign rfl) rfl <| en_nil <| en_then <| en_ret <| ?_
    refine en_return (rs := [.tmp 2]) rfl (.cons (.tmp rfl) .nil) (.refl _) ⟨_, _, rfl, rfl⟩
theorem delete_ct (h : Heap) (ad : Option Addr) (m cp i : Nat) (H : Nat → HandD) (rv : Nat → Value) (hi : i < m) (hm : m ≤ 1000) (hr : ∀ a, a < m → (rv a).oneCell' = true) :
    CT Try.prog 59 [.slice ad m cp, .int .i64 i, .int .i64 ((i : Int) + 1)] h [own 41 9 (.slice ad m cp) m (rows m 9 fun a => hcell (H a) (rv a))]
      (fun v _ Γ' => ∃ ad' cp', v = .slice ad' (m - 1) cp' ∧ Γ' = [own 41 9 (.slice ad' (m - 1) cp') (m - 1) (rows (m - 1) 9 fun a => hcell (H (skip i a)) (rv (skip i a)))]) := by
  have hone := one_rowsH (H := H) hr
  obtain ⟨k, rfl⟩ : ∃ k, m = i + (1 + k) := ⟨m - i - 1, by omega⟩
  have hsp : rows (i + (1 + k)) 9 (fun a => hcell (H a) (rv a)) = rows i 9 (fun a => hcell (H a) (rv a)) ++ (rows 1 9 (fun a => hcell (H (a + i)) (rv (a + i))) ++ rows k 9 (fun a => hcell (H (a + 1 + i)) (rv (a + 1 + i)))) := by
    rw [rows_split, rows_split]
  have hnew : rows (i + k) 9 (fun a => hcell (H (skip i a)) (rv (skip i a))) = rows i 9 (fun a => hcell (H a) (rv a)) ++ rows k 9 (fun a => hcell (H (a + 1 + i)) (rv (a + 1 + i))) := by
    rw [rows_split]
    congr 1
    · exact rows_congr fun a j ha _ => by unfold skip; rw [if_pos ha]
    · exact rows_congr fun a j ha _ => by unfold skip; rw [if_neg (by omega), show a + i + 1 = a + 1 + i by omega]
  refine ct_intro Try.func59 rfl rfl rfl rfl fun Φ => ?_
  refine en_own_shape fun _ _ e17 hc1 hc2 _ => ?_
  cases e17
  refine en_own_box (by omega) fun b tail ead htl _ => ?_
  subst ead
  rw [hsp] at htl hone ⊢
  have l1 : (rows i 9 (fun a => hcell (H a) (rv a))).length = i * 9 := rows_length _ _ _
  have l2 : (rows 1 9 (fun a => hcell (H (a + i)) (rv (a + i)))).length = 9 := rows_length _ _ _
  have l3 : (rows k 9 (fun a => hcell (H (a + 1 + i)) (rv (a + 1 + i)))).length = k * 9 := rows_length _ _ _
  have hm1 : i + (1 + k) - 1 = i + k := by omega
  rw [hm1, hnew]
  generalize rows i 9 (fun a => hcell (H a) (rv a)) = A at *
  generalize rows 1 9 (fun a => hcell (H (a + i)) (rv (a + i))) = B at *
  generalize rows k 9 (fun a => hcell (H (a + 1 + i)) (rv (a + 1 + i))) = C at *
  have htl2 : 9 + i * 9 + k * 9 ≤ cp * 9 := by omega
  have hdrop : ((A ++ (B ++ C) ++ tail).drop (((i : Int) + 1).toNat * 9)).take (k * 9) = C := by
    have e1 : ((i : Int) + 1).toNat * 9 = (A ++ B).length := by rw [List.length_append, l1, l2]; omega
    have e2 : A ++ (B ++ C) ++ tail = (A ++ B) ++ (C ++ tail) := by simp
    rw [e1, e2, List.drop_left, ← l3, List.take_left]
  refine en_seq <| en_region <| en_det (opT_assign rfl) rfl <| en_nil <| en_then <| en_seq <| en_region <| en_det (opT_move rfl) rfl <| en_det (opT_move rfl) rfl <| en_det (opT_move rfl) rfl <| en_det (opT_move rfl) rfl <| en_det (opT_len rfl) rfl <| en_det (opT_sl3 rfl rfl rfl rfl (by omega) (by omega) (by omega) (by omega)) rfl <| en_nil <| en_then <| en_seq <| en_seq <| en_region <| en_det (opT_move rfl) rfl <| en_det (opT_move rfl) rfl <| en_det (opT_eql_f rfl rfl (by omega)) rfl <| en_nil <| en_then <| en_cond_f rfl <| en_skip <| en_then <| en_seq <| en_region <| en_det (opT_move rfl) rfl <| en_det (opT_len rfl) rfl <| en_det (opT_assign rfl) rfl <| en_nil <| en_then <| en_seq <| en_draw0 [0, 1, 2, 3, 4, 5, 6, 7] (by kernel_rfl) (by decide +kernel) (by decide +kernel) (by decide) <| dp_p rfl (fun _ _ => opT_move rfl) rfl rfl rfl <| dp_p rfl (fun _ _ => opT_move rfl) rfl rfl rfl <| dp_p rfl (fun _ _ => opT_slH rfl rfl (by omega) (by omega)) rfl rfl rfl <| dp_p rfl (fun _ _ => opT_move rfl) rfl rfl rfl <| dp_p rfl (fun _ _ => opT_move rfl) rfl rfl rfl <| dp_p rfl (fun _ _ => opT_slL rfl rfl (by omega) (by omega)) rfl rfl rfl <| ?_
  refine dp_tn rfl (opT_app_in (off := ((i : Int) + 1).toNat * 9) (k := i + (1 + k) - ((i : Int) + 1).toNat) (news := C) rfl rfl (fun hk0 => by rw [if_neg (by omega), Nat.zero_add]) (by rw [show i + (1 + k) - ((i : Int) + 1).toNat = k by omega]; exact hdrop) (by omega) (fun q hq => hone q (by simp [hq])) (by omega) (by simp only [List.length_append]; omega) (by simp only [List.length_append]; omega)) rfl rfl rfl rfl rfl fun v26 _ _ _ hv26 => ?_; obtain ⟨rfl, e2, rfl⟩ := hv26; replace e2 := e2.symm; subst e2
  refine dp_p rfl (fun _ _ => opT_assign rfl) rfl rfl rfl <| dp_done0 <| ?_
  have ek : i + (1 + k) - ((i : Int) + 1).toNat = k := by omega
  have et : (A ++ (B ++ C) ++ tail).take (i * 9) = A := by
    rw [← l1, List.append_assoc, List.take_left]
  rw [ek, show ((i : Int)).toNat = i from Int.toNat_natCast i, et]
  have ht1 : ((A ++ (B ++ C) ++ tail).drop (i * 9 + C.length)).length = cp * 9 - (i + k) * 9 := by
    rw [List.length_drop, htl]; omega
  generalize (A ++ (B ++ C) ++ tail).drop (i * 9 + C.length) = T1 at ht1 ⊢
  have lac : (A ++ C).length = (i + k) * 9 := by rw [List.length_append]; omega
  refine en_then <| en_seq <| en_region <| en_det (opT_move rfl) rfl <| en_det (opT_move rfl) rfl <| en_det (opT_len rfl) rfl <| en_det (opT_move rfl) rfl <| ?_
  refine en_det (opT_slLH rfl rfl rfl (by omega) (by omega) (by omega)) rfl ?_
  simp only [Int.toNat_natCast]
  rw [if_neg (by omega), Nat.zero_add, show i + (1 + k) - (i + k) = 1 by omega]
  refine en_op0 (opT_clear1 rfl one_zero41 (by rw [List.length_append, lac, ht1]; omega)) fun _ _ _ _ hcl => ?_
  obtain ⟨e2, us, hus, e3⟩ := hcl
  subst e3; replace e2 := e2.symm; subst e2
  have et2 : (A ++ C ++ T1).take ((i + k) * 9) = A ++ C := by rw [← lac, List.take_left]
  rw [et2]
  have ht2 : ((A ++ C ++ T1).drop ((i + k) * 9 + us.length)).length = cp * 9 - (i + k) * 9 - 9 := by
    rw [List.length_drop, List.length_append, lac, ht1, hus]; omega
  generalize (A ++ C ++ T1).drop ((i + k) * 9 + us.length) = T2 at ht2 ⊢
  rw [List.append_assoc (A ++ C) us T2]
  refine en_box_own (m := i + k) (cp := cp) (sz := 9) (by omega) hc2 (by simp only [List.length_append] at lac ⊢; omega) lac ?_
  refine en_nil <| en_then <| en_seq <| en_region <| en_det (opT_move rfl) rfl <| en_det (opT_assign rfl) rfl <| en_nil <| en_then <| en_ret <| ?_
  refine en_return (rs := [.tmp 6]) rfl (.cons (.tmp rfl) .nil) (.refl _) ⟨_, _, rfl, rfl⟩

def lossE (b : BeltD) (hand : Int) : Int := if checkD b = 0 then (if inD hand 0 (b.nh - 1) = true then 0 else 2) else checkD b
theorem addS_ct {h' : Heap} {v : Value} (o : BeltD) (ho : BOK o) (hl : IsInts h' v (mostL o)) : CT Try.prog 76 [v] h' [] (DetW (.int .i64 (mostA o)) []) := by
  obtain ⟨ad, cp, rfl, h1', h2', hp⟩ := hl.shape
  have hlen := mostL_length o
  have hn8 := ho.n8
  have cS := add_ct h' ad (mostL o).length cp (fun i => mostT o i) (by omega) (fun i _ => by have := mostT_bound ho i; omega) (fun h0 => by
    obtain ⟨q, off, e, hh⟩ := hp h0
    exact ⟨q, off, e, fun i hi => by rw [← mostL_get hi]; exact hh i hi⟩)
  have e : sumN (mostL o).length (fun i => mostT o i) = mostA o := by rw [hlen]; rfl
  rw [e] at cS
  exact cS
theorem loss_ct (h : Heap) (v : Value) (b : BeltD) (hand : Int) (hb : IsBelt h v b) : CT Try.prog 58 [v, .int .i64 hand] h []
    (fun v _ Γ' => v = .tuple #[.int .i64 (if lossE b hand = 0 then lossD b hand.toNat else 0), .int .i64 (lossE b hand)] ∧ Γ' = []) := by
  obtain ⟨tv, hv, rfl, hT, hH⟩ := id hb
  have hH0 := hH
  obtain ⟨rv, ⟨hl0, had, hcp, rfl, hm1, hc1, hp1⟩, hr⟩ := hH
  obtain ⟨tl, tad, tcp, rfl, tm1, tc1, tp1⟩ := hT
  have cA := opened_ct h _ _ b hb
  refine ct_intro Try.func58 rfl rfl rfl rfl fun Φ => ?_
  refine en_seq <| en_region <| en_box rfl rfl rfl fun b2 => en_det (opT_assign rfl) rfl <| en_det (opT_assign rfl) rfl <| en_nil <| en_then <| en_seq <| en_region <| ?_
  first | refine en_det (opT_loadW_own rfl rfl) rfl ?_ | refine en_det (opT_loadA_own rfl) rfl ?_
  refine en_call cA rfl rfl rfl rfl fun v h1 Γ' s1 hv => ?_
  skip
  rcases hv with ⟨hz, d, rfl, rfl⟩ | ⟨hz, rfl, rfl⟩
  · refine en_norm ?_
    have hk := check_ok.1 hz
    have h5 := hk.h5
    have cI := in_ct hand 0 (b.nh - 1) h1
    cases hi0 : inD hand 0 (b.nh - 1) with
    | false =>
      rw [hi0] at cI
      have e : lossE b hand = 2 := by simp [lossE, hz, hi0]
      rw [e]
      refine en_det (opT_move rfl) rfl <| en_det (opT_extract rfl rfl) rfl <| en_det (opT_extract rfl rfl) rfl <| en_det (opT_assign rfl) rfl <| en_det (opT_assign rfl) rfl <| en_nil <| en_then <| en_seq <| en_block <| en_seq <| en_region <| en_det (opT_move rfl) rfl <| en_det (opT_neq_f rfl rfl (by omega)) rfl <| en_det (opT_assign rfl) rfl <| en_nil <| en_then <| en_cond_f rfl <| en_seq <| en_region <| en_det (opT_move rfl) rfl <| en_det (opT_fieldAddr rfl) rfl <| en_det (opT_load_own rfl rfl) rfl <| en_det (opT_len rfl) rfl <| en_det (opT_sub rfl rfl (by constructor <;> omega)) rfl <| en_calld (cI) rfl rfl rfl rfl <| ?_
      first | refine en_det (opT_not_t rfl) rfl ?_ | refine en_det (opT_not_f rfl) rfl ?_ | refine en_det (opT_not rfl) rfl ?_
      refine en_det (opT_assign rfl) rfl <| en_nil <| en_then <| en_cond_t rfl <| en_seq <| en_region <| en_det (opT_assign rfl) rfl <| en_det (opT_assign rfl) rfl <| en_nil <| en_then <| en_ret <| en_blk_ret <| en_then_ret <| ?_
      refine en_return (rs := [.tmp 4, .tmp 5]) rfl (.cons (.tmp rfl) (.cons (.tmp rfl) .nil)) s1 (Γ1 := []) ⟨rfl, rfl⟩
    | true =>
      rw [hi0] at cI
      have e : lossE b hand = 0 := by simp [lossE, hz, hi0]
      rw [e, if_pos rfl]
      obtain ⟨i, rfl⟩ := Int.eq_ofNat_of_zero_le (a := hand) (by simp only [inD, decide_eq_true_eq] at hi0; omega)
      have hi : i < b.nh := by simp only [inD, decide_eq_true_eq] at hi0; omega
      rw [show ((i : Int)).toNat = i from Int.toNat_natCast i]
      have hone : ∀ a, a < b.nh → (rv a).oneCell' = true := fun a ha => (hr a ha).one
      have hdo := delB_ok hk hi
      refine en_det (opT_move rfl) rfl <| en_det (opT_extract rfl rfl) rfl <| en_det (opT_extract rfl rfl) rfl <| en_det (opT_assign rfl) rfl <| en_det (opT_assign rfl) rfl <| en_nil <| en_then <| en_seq <| en_block <| en_seq <| en_region <| en_det (opT_move rfl) rfl <| en_det (opT_neq_f rfl rfl (by omega)) rfl <| en_det (opT_assign rfl) rfl <| en_nil <| en_then <| en_cond_f rfl <| en_seq <| en_region <| en_det (opT_move rfl) rfl <| en_det (opT_fieldAddr rfl) rfl <| en_det (opT_load_own rfl rfl) rfl <| en_det (opT_len rfl) rfl <| en_det (opT_sub rfl rfl (by constructor <;> omega)) rfl <| en_calld (cI) rfl rfl rfl rfl <| ?_
      first | refine en_det (opT_not_t rfl) rfl ?_ | refine en_det (opT_not_f rfl) rfl ?_ | refine en_det (opT_not rfl) rfl ?_
      refine en_det (opT_assign rfl) rfl <| en_nil <| en_then <| en_cond_f rfl <| en_skip <| en_blk <| en_then <| ?_
      refine en_meet (ι := Option Addr × Nat × Nat × Heap) (fun x => h1.sub x.2.2.2) (fun x => [(6, pt d), (8, pt x.2.2.1)]) (fun x => x.2.2.2) (fun x => [own 41 9 (.slice x.1 (b.nh - 1) x.2.1) (b.nh - 1) (rows (b.nh - 1) 9 fun a => hcell (b.hand (skip i a)) (rv (skip i a))), box x.2.2.1 26 [.slice tad b.nt tcp, .slice x.1 (b.nh - 1) x.2.1], Desk d (.slice tad b.nt tcp) (.slice had b.nh hcp) wholeV b.hand]) ?_ (fun x hx => ?_)
      · skip
        refine en_pick (box b2 26 [.slice tad b.nt tcp, .slice had b.nh hcp]) ?_
        refine en_fzb fun h2 s2 hb2 => ?_
        have k0 : cellH h2 b2 0 = some (.slice tad b.nt tcp) := cellH_box hb2 rfl
        have k1 : cellH h2 b2 1 = some (.slice had b.nh hcp) := cellH_box hb2 rfl
        have cC := fun h3 (s : h2.sub h3) => clone102_ct h3 (.slice had b.nh hcp) b.nh _ (SlH.mono (s1.trans (s2.trans s)) ⟨hl0, had, hcp, rfl, hm1, hc1, hp1⟩) (one_rowsH hone) (by omega)
        skip
        refine en_draw1 [0, 1, 2, 3, 5, 6, 7, 4, 8, 9, 10, 11] (by kernel_rfl) (by decide +kernel) (by decide +kernel) (by decide) ?_
        refine dp_p rfl (fun _ _ => opT_fieldAddr rfl) rfl rfl rfl <| dp_q rfl (opT_load_h rfl k0) rfl rfl rfl <| dp_p rfl (fun _ _ => opT_fieldAddr rfl) rfl rfl rfl <| dp_q rfl (opT_load_h rfl k1) rfl rfl rfl <| dp_p rfl (fun _ _ => opT_move rfl) rfl rfl rfl <| dp_p rfl (fun _ _ => opT_move rfl) rfl rfl rfl <| ?_
        refine dp_p rfl (fun _ _ => opT_add rfl rfl (by constructor <;> omega)) rfl rfl rfl ?_
        refine dp_two1 (e1 := 4) (e2 := 10) rfl rfl rfl (opT_call rfl rfl rfl (cC h2 (.refl _))) opT_alloc rfl rfl rfl (by simp) rfl rfl rfl rfl (fun v h3 Γ3 s3 hC => ?_) (fun v h3 Γ3 s3 hC => ?_)
        · obtain ⟨_, ⟨ad1, cp1, rfl, rfl⟩, rfl⟩ := hC
          refine dp_norm1 ?_
          refine dp_two1 (e1 := 8) (e2 := 10) rfl rfl rfl (opT_call rfl rfl rfl (delete_ct _ ad1 b.nh cp1 i b.hand rv hi (by omega) hone)) opT_alloc rfl rfl rfl (by simp) rfl rfl rfl rfl (fun v h4 Γ4 s4 hC => ?_) (fun v h4 Γ4 s4 hC => ?_)
          · obtain ⟨_, ⟨ad2, cp2, rfl, rfl⟩, rfl⟩ := hC
            refine dp_norm1 ?_
            refine dp_p rfl (fun _ _ => opT_build (cs := [.slice tad b.nt tcp, .slice ad2 (b.nh - 1) cp2]) rfl (by kernel_rfl)) rfl rfl rfl ?_
            refine dp_e1 rfl opT_alloc rfl rfl rfl rfl fun v h5 Γ5 s5 hC => ?_
            obtain ⟨b8, rfl, e2, rfl⟩ := hC
            replace e2 := e2.symm; subst e2
            refine dp_ed1 rfl (opT_storeW rfl rfl rfl rfl (by simp [Value.oneCell'])) rfl rfl rfl rfl <| dp_done1 ?_
            refine en_then <| ?_
            exact en_met (ad2, cp2, b8, h4) (s2.trans (s3.trans s4)) ⟨rfl, rfl, trivial⟩ (.refl _) inferInstance
          · obtain ⟨b8, rfl, e2, rfl⟩ := hC
            replace e2 := e2.symm; subst e2
            refine dp_e1 rfl (opT_call rfl rfl rfl (delete_ct _ ad1 b.nh cp1 i b.hand rv hi (by omega) hone)) rfl rfl rfl rfl fun v h4 Γ4 s4 hC => ?_
            obtain ⟨_, ⟨ad2, cp2, rfl, rfl⟩, rfl⟩ := hC
            refine dp_norm1 ?_
            refine dp_p rfl (fun _ _ => opT_build (cs := [.slice tad b.nt tcp, .slice ad2 (b.nh - 1) cp2]) rfl (by kernel_rfl)) rfl rfl rfl ?_
            refine dp_ed1 rfl (opT_storeW rfl rfl rfl rfl (by simp [Value.oneCell'])) rfl rfl rfl rfl <| dp_done1 ?_
            refine en_then <| ?_
            exact en_met (ad2, cp2, b8, h4) (s2.trans (s3.trans s4)) ⟨rfl, rfl, trivial⟩ (.refl _) inferInstance
        · obtain ⟨b8, rfl, e2, rfl⟩ := hC
          replace e2 := e2.symm; subst e2
          refine dp_e1 rfl (opT_call rfl rfl rfl (cC h2 (.refl _))) rfl rfl rfl rfl fun v h3 Γ3 s3 hC => ?_
          obtain ⟨_, ⟨ad1, cp1, rfl, rfl⟩, rfl⟩ := hC
          refine dp_norm1 ?_
          refine dp_e1 rfl (opT_call rfl rfl rfl (delete_ct _ ad1 b.nh cp1 i b.hand rv hi (by omega) hone)) rfl rfl rfl rfl fun v h4 Γ4 s4 hC => ?_
          obtain ⟨_, ⟨ad2, cp2, rfl, rfl⟩, rfl⟩ := hC
          refine dp_norm1 ?_
          refine dp_p rfl (fun _ _ => opT_build (cs := [.slice tad b.nt tcp, .slice ad2 (b.nh - 1) cp2]) rfl (by kernel_rfl)) rfl rfl rfl ?_
          refine dp_ed1 rfl (opT_storeW rfl rfl rfl rfl (by simp [Value.oneCell'])) rfl rfl rfl rfl <| dp_done1 ?_
          refine en_then <| ?_
          exact en_met (ad2, cp2, b8, h4) (s2.trans (s3.trans s4)) ⟨rfl, rfl, trivial⟩ (.refl _) inferInstance
      · skip
        obtain ⟨ad2, cp2, b8, h2⟩ := x
        have s2 : h1.sub h2 := hx
        change En _ _ _ [(6, pt d), (8, pt b8)] h2 [own 41 9 (.slice ad2 (b.nh - 1) cp2) (b.nh - 1) (rows (b.nh - 1) 9 fun a => hcell (b.hand (skip i a)) (rv (skip i a))), box b8 26 [.slice tad b.nt tcp, .slice ad2 (b.nh - 1) cp2], Desk d (.slice tad b.nt tcp) (.slice had b.nh hcp) wholeV b.hand]
        refine en_freeze_own fun h3 s3 hsl _ => ?_
        have hBd : IsBelt h3 (.agg #[.slice tad b.nt tcp, .slice ad2 (b.nh - 1) cp2]) (delB b i) := ⟨_, _, rfl, SlH.mono (s1.trans (s2.trans s3)) ⟨tl, tad, tcp, rfl, tm1, tc1, tp1⟩, fun a => rv (skip i a), hsl, fun a ha => (hr _ (skip_lt hi ha)).mono (s1.trans (s2.trans s3))⟩
        have hcd : checkD (delB b i) = 0 := check_ok.2 hdo
        refine en_seq <| en_region <| ?_
        first | refine en_det (opT_loadA_h rfl (by assumption) (by rfl)) rfl ?_ | refine en_det (opT_loadW_own rfl rfl) rfl ?_ | refine en_det (opT_loadA_own rfl) rfl ?_
        refine en_call (opened_ct h3 _ _ _ hBd) rfl rfl rfl rfl fun v h4 Γ' s4 hv => ?_
        obtain ⟨_, d2, rfl, rfl⟩ | ⟨hne, _⟩ := hv
        case inr => exact absurd hcd hne
        refine en_norm ?_
        have hb4 := hb.mono (s1.trans (s2.trans (s3.trans s4)))
        have hbd4 := hBd.mono s4
        refine en_det (opT_move rfl) rfl <| en_det (opT_extract rfl rfl) rfl <| en_det (opT_extract rfl rfl) rfl <| en_det (opT_assign rfl) rfl <| en_det (opT_assign rfl) rfl <| en_nil <| en_then <| en_seq <| en_region <| en_det (opT_move rfl) rfl <| ?_
        refine en_call (most_ct h4 d _ _ b hb4 hk) rfl rfl rfl rfl fun v h5 Γ' s5 hv => ?_
        obtain ⟨hl5, rfl⟩ := hv
        refine en_norm ?_
        have hA1 := mostA_bound hk
        have hA2 := mostA_bound hdo
        have cS1 := addS_ct b hk hl5
        obtain ⟨_, _, rfl, _⟩ := id hl5.shape
        refine en_calld (cS1) rfl rfl rfl rfl <| en_det (opT_move rfl) rfl <| ?_
        refine en_call (most_ct h5 d2 _ _ (delB b i) (hbd4.mono s5) hdo) rfl rfl rfl rfl fun v h6 Γ' s6 hv => ?_
        obtain ⟨hl6, rfl⟩ := hv
        refine en_norm ?_
        have cS2 := addS_ct (delB b i) hdo hl6
        refine en_calld (cS2) rfl rfl rfl rfl <| en_det (opT_sub rfl rfl (by constructor <;> omega)) rfl <| en_det (opT_assign rfl) rfl <| en_det (opT_assign rfl) rfl <| en_nil <| en_then <| en_ret <| ?_
        refine en_return (rs := [.tmp 4, .tmp 5]) rfl (.cons (.tmp rfl) (.cons (.tmp rfl) .nil)) (s1.trans (s2.trans (s3.trans (s4.trans (s5.trans s6))))) (Γ1 := []) ⟨rfl, rfl⟩
  · refine en_norm ?_
    have e : lossE b hand = checkD b := by simp [lossE, hz]
    rw [e, if_neg hz]
    refine en_det (opT_move rfl) rfl <| en_det (opT_extract rfl rfl) rfl <| en_det (opT_extract rfl rfl) rfl <| en_det (opT_assign rfl) rfl <| en_det (opT_assign rfl) rfl <| en_nil <| en_then <| en_seq <| en_block <| en_seq <| en_region <| en_det (opT_move rfl) rfl <| en_det (opT_neq_t rfl rfl (by omega)) rfl <| en_det (opT_assign rfl) rfl <| en_nil <| en_then <| en_cond_t rfl <| en_seq <| en_region <| en_det (opT_move rfl) rfl <| en_det (opT_assign rfl) rfl <| en_det (opT_assign rfl) rfl <| en_nil <| en_then <| en_ret <| en_blk_ret <| en_then_ret <| ?_
    refine en_return (rs := [.tmp 4, .tmp 5]) rfl (.cons (.tmp rfl) (.cons (.tmp rfl) .nil)) s1 (Γ1 := []) ⟨rfl, rfl⟩
end Go.Sx

/- The law BeltLost: the walk. -/
namespace Go.Sx
open Go.Proofs
set_option maxRecDepth 100000
theorem eg39 : Try.prog.eqGuardType Try.prog.depth 39 = false := by kernel_rfl
def tk5 (H : HandD) : List Bool := (List.range 5).map H.takes
theorem tk5_none {H : HandD} (h : tk5 H = [false, false, false, false, false]) : ∀ m, m < 5 → H.takes m = false := by
  intro m hm
  have e : (tk5 H)[m]? = some (H.takes m) := by simp [tk5, hm]
  rw [h] at e
  have : m = 0 ∨ m = 1 ∨ m = 2 ∨ m = 3 ∨ m = 4 := by omega
  rcases this with rfl | rfl | rfl | rfl | rfl <;> simpa using e.symm
theorem CellsH.takes {h : Heap} {b off : Nat} {H : HandD} {r : Value} (c : CellsH h b off (handL H r)) : CellsH h b (off + 0) ((tk5 H).map Value.bool) := fun j v hj => by
  have hl : ((tk5 H).map Value.bool).length = 5 := by simp [tk5]
  have hj5 : j < 5 := by have := (List.getElem?_eq_some_iff.1 hj).1; omega
  have e : (handL H r)[j]? = some v := by
    rw [row_get (by omega : j < 9), ← hj]
    simp [tk5, hj5, hcell]
  exact c j v e
theorem lossA_bound {b : BeltD} (hk : BOK b) : ∀ k, k ≤ b.nh → 0 ≤ sumN k (lossD b) ∧ sumN k (lossD b) ≤ 1600 * k := fun k hk' => by
  have h1 := sumN_nn (n := k) (f := lossD b) fun i hi => loss_nn hk (by omega)
  refine ⟨h1, ?_⟩
  have h2 := sumN_bound (n := k) (f := lossD b) (B := 1600) fun i hi => by
    have a := loss_nn hk (i := i) (by omega)
    have c := mostA_bound hk
    have d := mostA_bound (delB_ok hk (i := i) (by omega))
    unfold lossD at *; omega
  exact h2.2
theorem forceN_nn {b : BeltD} (hk : BOK b) {i : Nat} (hi : i < b.nh) (k : Nat) : 0 ≤ sumN k (fun t => forceD (b.hand i) t) ∧ sumN k (fun t => forceD (b.hand i) t) ≤ 40 * k := sumN_bound fun t _ => forceD_bound (hk.ok i hi) t
attribute [local irreducible] Code.wpIn wpListIn Exit.then Exit.inBlock BQ Again Hd St En OpT box blk RQ BQ0 fmap own Desk Chute
theorem lost_ct (h : Heap) (v1 : Value) (y1 : List Int) (w : Int) (hy1 : IsBytes h v1 y1) (hw : 0 ≤ w ∧ w ≤ 255) : CT Try.prog 9 [v1, .int .u8 w] h [] (DetW (.bool true) []) := by
  refine ct_intro Try.func9 rfl rfl rfl rfl fun Φ => ?_
  refine en_seq <| en_region <| en_det (opT_assign rfl) rfl <| en_nil <| en_then <| en_seq <| en_region <| en_det (opT_move rfl) rfl <| ?_
  refine en_call (fill_ct h v1 y1 hy1) rfl rfl rfl rfl fun v h1 Γ' s1 hv => ?_
  obtain ⟨c1, rfl, rfl⟩ := hv
  refine en_norm ?_
  refine en_callq (made_ct h1 c1 v1 y1 5 5 (hy1.mono s1) (by omega) (by omega) (by omega) (by omega)) rfl rfl rfl rfl fun v h2 s2 hv => ?_
  obtain ⟨b, hB, hM⟩ := hv
  have hk := hM.ok (by omega) (by omega)
  have hk5 := hk.h5
  have hn1 := hk.n1
  have hn8 := hk.n8
  obtain ⟨tv, hv, rfl, ⟨tl, tad, tcp, rfl, tq⟩, ⟨rv, ⟨hl0, had, hcp, rfl, _, _, hp1⟩, hr⟩⟩ := id hB
  clear tl tq hl0
  refine en_drop ?_
  have hc0 : checkD b = 0 := check_ok.2 hk
  have hnb := mostA_bound hk
  refine en_alloc rfl fun b5 => ?_
  refine en_det0 (opT_storeW rfl rfl rfl rfl (by simp [Value.oneCell'])) <| en_nil <| en_then <| en_seq <| en_region <| ?_
  first | refine en_det (opT_loadW_own rfl rfl) rfl ?_ | refine en_det (opT_loadA_own rfl) rfl ?_
  refine en_call (most21_ct h2 _ _ b hB) rfl rfl rfl rfl fun v h3 Γ' s3 hv => ?_
  obtain ⟨rfl, ⟨_, lv, rfl, _⟩ | ⟨hne, _⟩⟩ := hv
  case inr => exact absurd hc0 hne
  refine en_norm ?_
  have B3 := hB.mono s3
  refine en_det (opT_move rfl) rfl <| en_det (opT_extract rfl rfl) rfl <| en_det (opT_extract rfl rfl) rfl <| en_det (opT_extract rfl rfl) rfl <| en_det (opT_assign rfl) rfl <| en_det (opT_assign rfl) rfl <| en_det (opT_assign rfl) rfl <| en_nil <| en_then <| en_seq <| en_seq <| en_region <| en_det (opT_move rfl) rfl <| en_det (opT_neq_f rfl rfl (by omega)) rfl <| en_nil <| en_then <| en_cond_f rfl <| en_skip <| en_then <| en_seq <| en_region <| en_det (opT_assign rfl) rfl <| en_nil <| en_then <| en_seq <| en_seq <| en_region <| en_det (opT_fieldAddr rfl) rfl <| en_det (opT_load_own rfl rfl) rfl <| en_det (opT_len rfl) rfl <| en_det (opT_move rfl) rfl <| en_nil <| en_then <| en_block <| ?_
  refine en_loop (fun x : Nat × Heap => x.1 ≤ b.nh ∧ h3.sub x.2) (fun x => [(1, .int .u8 w), (5, pt b5), (7, .int .i64 (mostA b)), (9, .int .i64 (sumN x.1 (lossD b))), (34, .int .i64 b.nh), (35, .int .i64 x.1)]) (fun x => x.2) (fun _ => [box b5 26 [.slice tad b.nt tcp, .slice had b.nh hcp]]) (fun x => b.nh - x.1) (0, h3) ⟨by simp, .refl _⟩ ⟨rfl, rfl, rfl, rfl, rfl, rfl, trivial⟩ (.refl _) (tkAll _) fun x hx => ?_
  obtain ⟨k, h4⟩ := x
  obtain ⟨hkn, s4⟩ := hx
  simp only at hkn s4
  change En _ _ _ [(1, .int .u8 w), (5, pt b5), (7, .int .i64 (mostA b)), (9, .int .i64 (sumN k (lossD b))), (34, .int .i64 b.nh), (35, .int .i64 k)] h4 [box b5 26 [.slice tad b.nt tcp, .slice had b.nh hcp]]
  have hlb := lossA_bound hk k hkn
  refine en_seq <| en_region <| ?_
  first | refine en_det (opT_lss_t rfl rfl (by omega)) rfl ?_ | refine en_det (opT_lss_f rfl rfl (by omega)) rfl ?_ | refine en_det (opT_lss rfl rfl) rfl ?_
  refine en_nil <| en_then <| en_seq <| ?_
  refine en_if rfl (fun hlt1 => ?_) (fun hlt1 => ?_)
  · skip
    have hkl : k < b.nh := by omega
    have B4 := B3.mono s4
    have hle : lossE b k = 0 := by
      have : inD (k : Int) 0 (b.nh - 1) = true := by simp only [inD, decide_eq_true_eq]; omega
      simp [lossE, hc0, this]
    have cL := loss_ct h4 _ b k B4
    rw [hle, if_pos rfl, Int.toNat_natCast] at cL
    have hdo := delB_ok hk hkl
    have hdc : checkD (delB b k) = 0 := check_ok.2 hdo
    have hdb := mostA_bound hdo
    have hl0 := loss_nn hk hkl
    have hl1 := loss_le hk hkl
    have hln := loss_none hk hkl
    have hlv : lossD b k = mostA b - mostA (delB b k) := rfl
    have hls : sumN (k + 1) (lossD b) = sumN k (lossD b) + lossD b k := rfl
    have hlb2 := lossA_bound hk (k + 1) (by omega)
    rw [hls] at hlb2
    generalize lossD b k = L at cL hl0 hl1 hln hlv hls hlb2
    refine en_skip <| en_then <| en_seq <| en_block <| en_seq <| en_region <| en_det (opT_move rfl) rfl <| en_det (opT_assign rfl) rfl <| en_nil <| en_then <| en_seq <| en_region <| ?_
    first | refine en_det (opT_loadW_own rfl rfl) rfl ?_ | refine en_det (opT_loadA_own rfl) rfl ?_
    refine en_det (opT_move rfl) rfl <| ?_
    refine en_call cL rfl rfl rfl rfl fun v h5 Γ' s5 hv => ?_
    obtain ⟨rfl, rfl⟩ := hv
    refine en_norm ?_
    have B5 := B4.mono s5
    refine en_det (opT_move rfl) rfl <| en_det (opT_extract rfl rfl) rfl <| en_det (opT_extract rfl rfl) rfl <| en_det (opT_assign rfl) rfl <| en_det (opT_assign rfl) rfl <| en_nil <| en_then <| en_seq <| en_region <| ?_
    first | refine en_det (opT_loadW_own rfl rfl) rfl ?_ | refine en_det (opT_loadA_own rfl) rfl ?_
    refine en_call (clone_ct h5 _ b B5 hk.small) rfl rfl rfl rfl fun v h6 Γ' s6 hv => ?_
    obtain ⟨gad, gtc, gha, ghc, grv, rfl, hgr, rfl⟩ := hv
    refine en_norm ?_
    refine en_alloc rfl fun b13 => ?_
    refine en_det0 (opT_storeW rfl rfl rfl rfl (by simp [Value.oneCell'])) <| en_nil <| en_then <| en_seq <| en_region <| en_det (opT_fieldAddr rfl) rfl <| en_det (opT_load_own (v := .slice gha b.nh ghc) rfl rfl) rfl <| en_det (opT_move rfl) rfl <| en_det (opT_move rfl) rfl <| en_det (opT_add rfl rfl (by constructor <;> omega)) rfl <| ?_
    refine en_call (delete_ct h6 gha b.nh ghc k b.hand grv hkl (by omega) (fun a ha => (hgr a ha).one)) rfl rfl rfl rfl fun v h7 Γ' s7 hv => ?_
    obtain ⟨dad, dcp, rfl, rfl⟩ := hv
    refine en_norm ?_
    refine en_det (opT_fieldAddr rfl) rfl <| ?_
    refine en_freeze_own fun h8 s8 hsh _ => ?_
    refine en_pick (own 31 5 (.slice gad b.nt gtc) b.nt (rows b.nt 5 (icell b.tray))) ?_
    refine en_freeze_own fun h9 s9 hst _ => ?_
    have hBd : IsBelt h9 (.agg #[.slice gad b.nt gtc, .slice dad (b.nh - 1) dcp]) (delB b k) := ⟨_, _, rfl, hst, fun a => grv (skip k a), SlH.mono s9 hsh, fun a ha => (hgr _ (skip_lt hkl ha)).mono (s7.trans (s8.trans s9))⟩
    refine en_det0 (opT_store1 rfl rfl rfl) <| en_nil <| en_then <| en_seq <| en_region <| ?_
    first | refine en_det (opT_loadW_own rfl rfl) rfl ?_ | refine en_det (opT_loadA_own rfl) rfl ?_
    refine en_call (most21_ct h9 _ _ (delB b k) hBd) rfl rfl rfl rfl fun v h10 Γ' s10 hv => ?_
    obtain ⟨rfl, ⟨_, lv', rfl, _⟩ | ⟨hne, _⟩⟩ := hv
    case inr => exact absurd hdc hne
    refine en_norm ?_
    have s510 := s5.trans (s6.trans (s7.trans (s8.trans (s9.trans s10))))
    have B10 := B4.mono s510
    refine en_keep [box b5 26 [.slice tad b.nt tcp, .slice had b.nh hcp]] ?_
    refine en_det (opT_move rfl) rfl <| en_det (opT_extract rfl rfl) rfl <| en_det (opT_extract rfl rfl) rfl <| en_det (opT_extract rfl rfl) rfl <| en_det (opT_assign rfl) rfl <| en_det (opT_assign rfl) rfl <| en_det (opT_assign rfl) rfl <| en_nil <| en_then <| en_seq <| en_region <| en_det (opT_assign rfl) rfl <| en_nil <| en_then <| en_seq <| en_seq <| en_region <| en_det (opT_fieldAddr rfl) rfl <| en_det (opT_load_own rfl rfl) rfl <| en_det (opT_len rfl) rfl <| en_det (opT_move rfl) rfl <| en_nil <| en_then <| en_block <| ?_
    refine en_loop (fun x : Nat × Heap => x.1 ≤ b.nt ∧ h10.sub x.2) (fun x => [(1, .int .u8 w), (5, pt b5), (7, .int .i64 (mostA b)), (9, .int .i64 (sumN k (lossD b))), (34, .int .i64 b.nh), (35, .int .i64 k), (10, .int .i64 k), (11, .int .i64 L), (12, .int .i64 0), (15, .int .i64 (mostA (delB b k))), (16, .int .i64 0), (17, .int .i64 (sumN x.1 fun t => forceD (b.hand k) t)), (61, .int .i64 b.nt), (62, .int .i64 x.1)]) (fun x => x.2) (fun _ => [box b5 26 [.slice tad b.nt tcp, .slice had b.nh hcp]]) (fun x => b.nt - x.1) (0, h10) ⟨by simp, .refl _⟩ ⟨rfl, rfl, rfl, rfl, rfl, rfl, rfl, rfl, rfl, rfl, rfl, rfl, rfl, rfl, trivial⟩ (.refl _) (tkAll _) fun x hx => ?_
    obtain ⟨t, h11⟩ := x
    obtain ⟨ht, s11⟩ := hx
    simp only at ht s11
    change En _ _ _ [(1, .int .u8 w), (5, pt b5), (7, .int .i64 (mostA b)), (9, .int .i64 (sumN k (lossD b))), (34, .int .i64 b.nh), (35, .int .i64 k), (10, .int .i64 k), (11, .int .i64 L), (12, .int .i64 0), (15, .int .i64 (mostA (delB b k))), (16, .int .i64 0), (17, .int .i64 (sumN t fun t => forceD (b.hand k) t)), (61, .int .i64 b.nt), (62, .int .i64 t)] h11 [box b5 26 [.slice tad b.nt tcp, .slice had b.nh hcp]]
    have hfn := forceN_nn hk hkl t
    refine en_seq <| en_region <| ?_
    first | refine en_det (opT_lss_t rfl rfl (by omega)) rfl ?_ | refine en_det (opT_lss_f rfl rfl (by omega)) rfl ?_ | refine en_det (opT_lss rfl rfl) rfl ?_
    refine en_nil <| en_then <| en_seq <| ?_
    refine en_if rfl (fun hlt2 => ?_) (fun hlt2 => ?_)
    · skip
      have htl : t < b.nt := by omega
      have hfe : forceE b k t = 0 := by
        have h1 : inD (k : Int) 0 (b.nh - 1) = true := by simp only [inD, decide_eq_true_eq]; omega
        have h2 : inD (t : Int) 0 (b.nt - 1) = true := by simp only [inD, decide_eq_true_eq]; omega
        simp [forceE, hc0, h1, h2]
      have cF := force37_ct h11 _ _ b k t (B10.mono s11)
      rw [hfe, if_pos rfl, Int.toNat_natCast, Int.toNat_natCast] at cF
      have hfs : sumN (t + 1) (fun t => forceD (b.hand k) t) = sumN t (fun t => forceD (b.hand k) t) + forceD (b.hand k) t := rfl
      have hf0 := forceD_bound (hk.ok k hkl) t
      generalize forceD (b.hand k) t = f at cF hfs hf0
      refine en_skip <| en_then <| en_seq <| en_block <| en_seq <| en_region <| en_det (opT_move rfl) rfl <| en_det (opT_assign rfl) rfl <| en_nil <| en_then <| en_seq <| en_region <| ?_
      first | refine en_det (opT_loadW_own rfl rfl) rfl ?_ | refine en_det (opT_loadA_own rfl) rfl ?_
      refine en_det (opT_move rfl) rfl <| en_det (opT_move rfl) rfl <| ?_
      refine en_call cF rfl rfl rfl rfl fun v h12 Γ' s12 hv => ?_
      obtain ⟨rfl, rfl⟩ := hv
      refine en_norm ?_
      refine en_det (opT_move rfl) rfl <| en_det (opT_extract rfl rfl) rfl <| en_det (opT_extract rfl rfl) rfl <| en_det (opT_assign rfl) rfl <| en_det (opT_assign rfl) rfl <| en_nil <| en_then <| en_seq <| en_seq <| en_region <| en_det (opT_move rfl) rfl <| en_det (opT_neq_f rfl rfl (by omega)) rfl <| en_det (opT_move rfl) rfl <| en_g_yes rfl rfl <| en_det (opT_move rfl) rfl <| en_g_yes rfl rfl <| en_det (opT_lss_f rfl rfl (by omega)) rfl <| ?_
      first | refine en_det (opT_pick_t rfl rfl) rfl ?_ | refine en_det (opT_pick_f rfl rfl) rfl ?_
      refine en_nil <| en_then <| en_cond_f rfl <| en_skip <| en_then <| en_region <| en_det (opT_move rfl) rfl <| en_det (opT_move rfl) rfl <| en_det (opT_add rfl rfl (by constructor <;> omega)) rfl <| en_det (opT_assign rfl) rfl <| en_nil <| en_blk <| en_then <| en_region <| en_det (opT_add rfl rfl (by constructor <;> omega)) rfl <| en_det (opT_move rfl) rfl <| en_nil <| en_then <| ?_
      exact en_again (t + 1, h12) ⟨by simp only; omega, s11.trans s12⟩ (by simp only; omega) ⟨rfl, rfl, rfl, rfl, rfl, rfl, rfl, rfl, rfl, rfl, rfl, gi rfl hfs.symm, rfl, gi rfl (by simp), trivial⟩ (.refl _) inferInstance
    · skip
      obtain rfl : t = b.nt := by omega
      have hl1 : L ≤ sumN b.nt (fun t => forceD (b.hand k) t) := hl1
      generalize sumN b.nt (fun t => forceD (b.hand k) t) = F at hl1 hfn ⊢
      obtain ⟨hb, hoff, rfl, hcells⟩ := hp1 (by omega)
      have hrow : CellsH h11 hb (hoff + k * 9) (handL (b.hand k) (rv k)) := (hcells.row hkl).mono (s3.trans (s4.trans (s510.trans s11)))
      have htk := hrow.takes
      skip
      by_cases hno : tk5 (b.hand k) = [false, false, false, false, false]
      · have hz := hln (tk5_none hno)
        subst hz
        refine en_exit <| en_then_exit <| en_then_exit <| en_blk_hit <| en_then <| en_seq <| en_seq <| en_region <| en_det (opT_move rfl) rfl <| en_det (opT_neq_f rfl rfl (by omega)) rfl <| en_det (opT_move rfl) rfl <| en_g_yes rfl rfl <| en_det (opT_move rfl) rfl <| en_g_yes rfl rfl <| en_det (opT_neq_f rfl rfl (by omega)) rfl <| ?_
        first | refine en_det (opT_pick_t rfl rfl) rfl ?_ | refine en_det (opT_pick_f rfl rfl) rfl ?_
        refine en_det (opT_move rfl) rfl <| en_g_yes rfl rfl <| en_det (opT_move rfl) rfl <| en_g_yes rfl rfl <| en_det (opT_move rfl) rfl <| en_g_yes rfl rfl <| en_det (opT_move rfl) rfl <| en_g_yes rfl rfl <| en_det (opT_sub rfl rfl (by constructor <;> omega)) rfl <| en_g_yes rfl rfl <| en_det (opT_neq_f rfl rfl (by omega)) rfl <| ?_
        first | refine en_det (opT_pick_t rfl rfl) rfl ?_ | refine en_det (opT_pick_f rfl rfl) rfl ?_
        refine en_det (opT_move rfl) rfl <| en_g_yes rfl rfl <| en_det (opT_move rfl) rfl <| en_g_yes rfl rfl <| en_det (opT_lss_f rfl rfl (by omega)) rfl <| ?_
        first | refine en_det (opT_pick_t rfl rfl) rfl ?_ | refine en_det (opT_pick_f rfl rfl) rfl ?_
        refine en_det (opT_move rfl) rfl <| en_g_yes rfl rfl <| en_det (opT_move rfl) rfl <| en_g_yes rfl rfl <| en_det (opT_move rfl) rfl <| en_g_yes rfl rfl <| en_det (opT_gtr_f rfl rfl (by omega)) rfl <| ?_
        first | refine en_det (opT_pick_t rfl rfl) rfl ?_ | refine en_det (opT_pick_f rfl rfl) rfl ?_
        refine en_det (opT_move rfl) rfl <| en_g_yes rfl rfl <| en_det (opT_fieldAddr rfl) rfl <| en_g_yes rfl rfl <| en_det (opT_load_own rfl rfl) rfl <| en_g_yes rfl rfl <| en_det (opT_move rfl) rfl <| en_g_yes rfl rfl <| ?_
        first | refine en_det (opT_idx1 rfl rfl (by omega) (by omega)) rfl ?_ | refine en_det (opT_idx (ks := 0) rfl rfl (by omega) (by omega)) rfl ?_
        refine en_g_yes rfl rfl <| en_det (opT_fieldAddr rfl) rfl <| en_g_yes rfl rfl <| en_det (opT_loadA_h rfl htk rfl) rfl <| en_g_yes rfl rfl <| en_det (opT_build (cs := [false, false, false, false, false].map Value.bool) rfl (by kernel_rfl)) rfl <| en_g_yes rfl rfl <| en_det ((decide_eq_true hno ▸ opT_eqArr (xs := tk5 (b.hand k)) (ys := [false, false, false, false, false]) (mk := Value.bool) (fun w dep a b => eq_bools (P := Try.prog) (e := 4) inferInstance w dep a b) eg39 rfl rfl rfl rfl)) rfl <| en_g_yes rfl rfl <| en_det (opT_move rfl) rfl <| en_g_yes rfl rfl <| en_det (opT_move rfl) rfl <| en_g_yes rfl rfl <| en_det (opT_neq_f rfl rfl (by omega)) rfl <| en_g_yes rfl rfl <| ?_
        first | refine en_det (opT_pick_t rfl rfl) rfl ?_ | refine en_det (opT_pick_f rfl rfl) rfl ?_
        first | refine en_det (opT_pick_t rfl rfl) rfl ?_ | refine en_det (opT_pick_f rfl rfl) rfl ?_
        refine en_nil <| en_then <| en_cond_f rfl <| en_skip <| en_then <| en_region <| en_det (opT_move rfl) rfl <| en_det (opT_move rfl) rfl <| en_det (opT_add rfl rfl (by constructor <;> omega)) rfl <| en_det (opT_assign rfl) rfl <| en_nil <| en_blk <| en_then <| en_region <| en_det (opT_add rfl rfl (by constructor <;> omega)) rfl <| en_det (opT_move rfl) rfl <| en_nil <| en_then <| ?_
        exact en_again (k + 1, h11) ⟨by simp only; omega, s4.trans (s510.trans s11)⟩ (by simp only; omega) ⟨rfl, rfl, rfl, gi rfl hls.symm, rfl, gi rfl (by simp), trivial⟩ (.refl _) inferInstance
      · skip
        refine en_exit <| en_then_exit <| en_then_exit <| en_blk_hit <| en_then <| en_seq <| en_seq <| en_region <| en_det (opT_move rfl) rfl <| en_det (opT_neq_f rfl rfl (by omega)) rfl <| en_det (opT_move rfl) rfl <| en_g_yes rfl rfl <| en_det (opT_move rfl) rfl <| en_g_yes rfl rfl <| en_det (opT_neq_f rfl rfl (by omega)) rfl <| ?_
        first | refine en_det (opT_pick_t rfl rfl) rfl ?_ | refine en_det (opT_pick_f rfl rfl) rfl ?_
        refine en_det (opT_move rfl) rfl <| en_g_yes rfl rfl <| en_det (opT_move rfl) rfl <| en_g_yes rfl rfl <| en_det (opT_move rfl) rfl <| en_g_yes rfl rfl <| en_det (opT_move rfl) rfl <| en_g_yes rfl rfl <| en_det (opT_sub rfl rfl (by constructor <;> omega)) rfl <| en_g_yes rfl rfl <| en_det (opT_neq_f rfl rfl (by omega)) rfl <| ?_
        first | refine en_det (opT_pick_t rfl rfl) rfl ?_ | refine en_det (opT_pick_f rfl rfl) rfl ?_
        refine en_det (opT_move rfl) rfl <| en_g_yes rfl rfl <| en_det (opT_move rfl) rfl <| en_g_yes rfl rfl <| en_det (opT_lss_f rfl rfl (by omega)) rfl <| ?_
        first | refine en_det (opT_pick_t rfl rfl) rfl ?_ | refine en_det (opT_pick_f rfl rfl) rfl ?_
        refine en_det (opT_move rfl) rfl <| en_g_yes rfl rfl <| en_det (opT_move rfl) rfl <| en_g_yes rfl rfl <| en_det (opT_move rfl) rfl <| en_g_yes rfl rfl <| en_det (opT_gtr_f rfl rfl (by omega)) rfl <| ?_
        first | refine en_det (opT_pick_t rfl rfl) rfl ?_ | refine en_det (opT_pick_f rfl rfl) rfl ?_
        refine en_det (opT_move rfl) rfl <| en_g_yes rfl rfl <| en_det (opT_fieldAddr rfl) rfl <| en_g_yes rfl rfl <| en_det (opT_load_own rfl rfl) rfl <| en_g_yes rfl rfl <| en_det (opT_move rfl) rfl <| en_g_yes rfl rfl <| ?_
        first | refine en_det (opT_idx1 rfl rfl (by omega) (by omega)) rfl ?_ | refine en_det (opT_idx (ks := 0) rfl rfl (by omega) (by omega)) rfl ?_
        refine en_g_yes rfl rfl <| en_det (opT_fieldAddr rfl) rfl <| en_g_yes rfl rfl <| en_det (opT_loadA_h rfl htk rfl) rfl <| en_g_yes rfl rfl <| en_det (opT_build (cs := [false, false, false, false, false].map Value.bool) rfl (by kernel_rfl)) rfl <| en_g_yes rfl rfl <| en_det ((decide_eq_false hno ▸ opT_eqArr (xs := tk5 (b.hand k)) (ys := [false, false, false, false, false]) (mk := Value.bool) (fun w dep a b => eq_bools (P := Try.prog) (e := 4) inferInstance w dep a b) eg39 rfl rfl rfl rfl)) rfl <| en_g_yes rfl rfl <| en_det (opT_move rfl) rfl <| en_g_no rfl rfl rfl <| en_g_no rfl rfl rfl <| en_g_yes rfl rfl <| ?_
        first | refine en_det (opT_pick_t rfl rfl) rfl ?_ | refine en_det (opT_pick_f rfl rfl) rfl ?_
        first | refine en_det (opT_pick_t rfl rfl) rfl ?_ | refine en_det (opT_pick_f rfl rfl) rfl ?_
        refine en_nil <| en_then <| en_cond_f rfl <| en_skip <| en_then <| en_region <| en_det (opT_move rfl) rfl <| en_det (opT_move rfl) rfl <| en_det (opT_add rfl rfl (by constructor <;> omega)) rfl <| en_det (opT_assign rfl) rfl <| en_nil <| en_blk <| en_then <| en_region <| en_det (opT_add rfl rfl (by constructor <;> omega)) rfl <| en_det (opT_move rfl) rfl <| en_nil <| en_then <| ?_
        exact en_again (k + 1, h11) ⟨by simp only; omega, s4.trans (s510.trans s11)⟩ (by simp only; omega) ⟨rfl, rfl, rfl, gi rfl hls.symm, rfl, gi rfl (by simp), trivial⟩ (.refl _) inferInstance
  · skip
    obtain rfl : k = b.nh := by omega
    have hall := loss_all hk
    have hle : lossE b (b.nh + w) = 2 := by
      have : inD ((b.nh : Int) + w) 0 (b.nh - 1) = false := by simp only [inD, decide_eq_false_iff_not]; omega
      simp [lossE, hc0, this]
    have cL := loss_ct h4 _ b (b.nh + w) (B3.mono s4)
    rw [hle, if_neg (by decide)] at cL
    generalize sumN b.nh (lossD b) = A at hall hlb ⊢
    refine en_exit <| en_then_exit <| en_then_exit <| en_blk_hit <| en_then <| en_seq <| en_region <| ?_
    first | refine en_det (opT_loadW_own rfl rfl) rfl ?_ | refine en_det (opT_loadA_own rfl) rfl ?_
    refine en_det (opT_fieldAddr rfl) rfl <| en_det (opT_load_own rfl rfl) rfl <| en_det (opT_len rfl) rfl <| en_det (opT_move rfl) rfl <| en_det (opT_conv rfl (wrap_i64 (by constructor <;> omega))) rfl <| en_det (opT_add rfl rfl (by constructor <;> omega)) rfl <| ?_
    refine en_call cL rfl rfl rfl rfl fun v h5 Γ' s5 hv => ?_
    obtain ⟨rfl, rfl⟩ := hv
    refine en_norm ?_
    refine en_det (opT_move rfl) rfl <| en_det (opT_extract rfl rfl) rfl <| en_det (opT_extract rfl rfl) rfl <| en_det (opT_assign rfl) rfl <| en_nil <| en_then <| en_seq <| en_region <| en_det (opT_move rfl) rfl <| en_det (opT_move rfl) rfl <| en_det (opT_leq_t rfl rfl (by omega)) rfl <| en_det (opT_move rfl) rfl <| en_g_yes rfl rfl <| en_det (opT_move rfl) rfl <| en_g_yes rfl rfl <| en_det (opT_eql_t rfl rfl (by omega)) rfl <| ?_
    first | refine en_det (opT_pick_t rfl rfl) rfl ?_ | refine en_det (opT_pick_f rfl rfl) rfl ?_
    refine en_det (opT_move rfl) rfl <| en_g_yes rfl rfl <| ?_
    refine en_call (awake_ct h5) rfl rfl rfl rfl fun v h6 Γ' s6 hv => ?_
    obtain ⟨rfl, rfl⟩ := hv
    refine en_norm ?_
    first | refine en_det (opT_pick_t rfl rfl) rfl ?_ | refine en_det (opT_pick_f rfl rfl) rfl ?_
    refine en_det (opT_assign rfl) rfl <| en_nil <| en_then <| en_ret <| ?_
    refine en_return (rs := [.tmp 4]) rfl (.cons (.tmp rfl) .nil) (s1.trans (s2.trans (s3.trans (s4.trans (s5.trans s6))))) (Γ1 := []) ⟨rfl, rfl⟩
end Go.Sx
