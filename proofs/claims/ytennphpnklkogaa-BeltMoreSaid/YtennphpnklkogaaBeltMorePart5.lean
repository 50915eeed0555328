/- BeltMore: for every input the law answers true and its arguments read as before; no condition. Part 5 of 5: W33, W36, MoreEnd. -/
import Derived.Test.YtennphpnklkogaaBeltMorePart4
set_option linter.unusedSimpArgs false
set_option linter.unusedVariables false
/- The law BeltEnough: the walk. -/
namespace Go.Sx
open Go.Proofs
set_option maxRecDepth 100000
section
variable {P : Program} {n : Nat} {ρ : Env} {h : Heap} {Γ : List HP} {d : Option Nat} {ty : TypeId} {pos : String} {af : Array Edge} {gd : Option (Nat × Bool)} {x y : Operand} {t t' : TypeId} {a b : Bool}
theorem opT_neB [hT : Ty P t .bool] (hx : ρ.ev x = some (.bool a)) (hy : ρ.ev y = some (.bool b)) : OpT P n ⟨d, .binOp .neq t x y t', ty, pos, af, gd⟩ ρ h Γ (Det (.bool (a != b)) h Γ) :=
  opT_pure (by simp) fun act en w => by
    have h0 : (eqGuard .neq t x y (.bool a) (.bool b)).run P w = .ok () w := by
      unfold eqGuard; simp [Sem.run, pure]
    have h1 : (Op.equal t (.bool a) (.bool b)).run P w = .ok (a == b) w := by
      unfold Op.equal Op.maxDepth
      exact run_equalIn_bool' w 9999 t a b hT.und
    have h2 : (binOp .neq t (.bool a) (.bool b)).run P w = .ok (.bool (a != b)) w := by
      simp only [binOp, Sem.run_bind, h1, Result.andThen_ok]; rfl
    simp only [execOp, en.ev hx, en.ev hy, Sem.run_bind, h0, h2, Result.andThen_ok, Sem.run, pure]
end
attribute [local irreducible] Code.wpIn wpListIn Exit.then Exit.inBlock BQ Again Hd St En OpT box blk RQ BQ0 fmap own Desk Chute
theorem enough_ct (h : Heap) (v1 v2 : Value) (y1 y2 : List Int) (hy1 : IsBytes h v1 y1) (hy2 : IsBytes h v2 y2) : CT Try.prog 3 [v1, v2] h [] (DetW (.bool true) []) := by
  refine ct_intro Try.func3 rfl rfl rfl rfl fun Φ => ?_
  refine en_seq <| en_region <| en_det (opT_assign rfl) rfl <| en_nil <| en_then <| en_seq <| en_region <| en_det (opT_move rfl) rfl <| ?_
  refine en_call (fill_ct h v1 y1 hy1) rfl rfl rfl rfl fun v h1 Γ' s1 hv => ?_
  obtain ⟨c1, rfl, rfl⟩ := hv
  refine en_norm ?_
  refine en_callq (made_ct h1 c1 v1 y1 5 5 (hy1.mono s1) (by omega) (by omega) (by omega) (by omega)) rfl rfl rfl rfl fun v h2 s2 hv => ?_
  obtain ⟨b, hB, hM⟩ := hv
  have hk := hM.ok (by omega) (by omega)
  have hk5 := hk.h5
  obtain ⟨tv, hv, rfl, ⟨tl, tad, tcp, rfl, tq⟩, ⟨rv, ⟨hl0, had, hcp, rfl, hq⟩, hr⟩⟩ := id hB
  clear tl tq hl0 hq hr
  refine en_drop ?_
  refine en_alloc rfl fun b5 => ?_
  refine en_det0 (opT_storeW rfl rfl rfl rfl (by simp [Value.oneCell'])) <| en_nil <| en_then <| en_seq <| en_region <| en_det (opT_move rfl) rfl <| ?_
  refine en_call (fill_ct h2 v2 y2 (hy2.mono (s1.trans s2))) rfl rfl rfl rfl fun v h3 Γ' s3 hv => ?_
  obtain ⟨c2, rfl, rfl⟩ := hv
  refine en_norm ?_
  have y23 := hy2.mono (s1.trans (s2.trans s3))
  refine en_det (opT_assign rfl) rfl <| en_nil <| en_then <| en_seq <| en_region <| en_det (opT_move rfl) rfl <| ?_
  refine en_callq (piled_ct h3 c2 v2 y2 14 y23 (by omega) (by omega)) rfl rfl rfl rfl fun v h4 s4 hv => ?_
  obtain ⟨left, rfl, hleft⟩ := hv
  have hl : piecesD left = true := piecesD_iff.2 fun m hm => by have := hleft m hm; omega
  have hz := kept_ok hk hl
  have hE := enough hk left
  have B4 := hB.mono (s3.trans s4)
  refine en_alloc rfl fun b7 => ?_
  refine en_det0 (opT_storeW rfl rfl rfl rfl (one_trayL _)) <| en_nil <| en_then <| en_seq <| en_region <| ?_
  first | refine en_det (opT_loadW_own rfl rfl) rfl ?_ | refine en_det (opT_loadA_own rfl) rfl ?_
  refine en_det (opT_loadW_own rfl (row_length _ _)) rfl <| ?_
  refine en_call (fewest_ct h4 _ _ b left B4) rfl rfl rfl rfl fun v h5 Γ' s5 hv => ?_
  obtain ⟨rfl, hv⟩ := hv
  refine en_norm ?_
  have B5 := B4.mono s5
  have cC := clean16_ct h5 _ _ b left B5
  rw [hz, if_pos rfl, ← hE.all] at cC
  have y25 := y23.mono (s4.trans s5)
  skip
  rcases hv with ⟨_, hf, rfl⟩ | ⟨_, hf, fv, rfl, hfv⟩ | ⟨h0, _⟩
  case inr.inr => exact absurd hz h0
  · rw [hf] at cC
    have hno := hE.none hf
    refine en_det (opT_move rfl) rfl <| en_det (opT_extract rfl rfl) rfl <| en_det (opT_extract rfl rfl) rfl <| en_det (opT_assign rfl) rfl <| en_det (opT_assign rfl) rfl <| en_nil <| en_then <| en_seq <| en_region <| ?_
    first | refine en_det (opT_loadW_own rfl rfl) rfl ?_ | refine en_det (opT_loadA_own rfl) rfl ?_
    refine en_det (opT_loadW_own rfl (row_length _ _)) rfl <| ?_
    refine en_call cC rfl rfl rfl rfl fun v h6 Γ' s6 hv => ?_
    obtain ⟨rfl, rfl⟩ := hv
    refine en_norm ?_
    refine en_det (opT_move rfl) rfl <| en_det (opT_extract rfl rfl) rfl <| en_det (opT_extract rfl rfl) rfl <| en_det (opT_assign rfl) rfl <| en_det (opT_assign rfl) rfl <| en_nil <| en_then <| en_seq <| en_seq <| en_region <| en_det (opT_move rfl) rfl <| en_det (opT_neq_f rfl rfl (by omega)) rfl <| en_det (opT_move rfl) rfl <| en_g_yes rfl rfl <| en_det (opT_move rfl) rfl <| en_g_yes rfl rfl <| en_det (opT_move rfl) rfl <| en_g_yes rfl rfl <| en_det (opT_eql_f rfl rfl (by omega)) rfl <| en_g_yes rfl rfl <| en_det (opT_neB rfl rfl) rfl <| ?_
    first | refine en_det (opT_pick_t rfl rfl) rfl ?_ | refine en_det (opT_pick_f rfl rfl) rfl ?_
    refine en_det (opT_move rfl) rfl <| en_g_yes rfl rfl <| en_det (opT_move rfl) rfl <| en_g_yes rfl rfl <| en_det (opT_neq_t rfl rfl (by omega)) rfl <| en_g_yes rfl rfl <| en_det (opT_move rfl) rfl <| en_g_yes rfl rfl <| en_det (opT_move rfl) rfl <| en_g_yes rfl rfl <| en_det (opT_neq_f rfl rfl (by omega)) rfl <| en_g_yes rfl rfl <| ?_
    first | refine en_det (opT_pick_t rfl rfl) rfl ?_ | refine en_det (opT_pick_f rfl rfl) rfl ?_
    first | refine en_det (opT_pick_t rfl rfl) rfl ?_ | refine en_det (opT_pick_f rfl rfl) rfl ?_
    refine en_nil <| en_then <| en_cond_f rfl <| en_skip <| en_then <| en_seq <| en_region <| en_det (opT_makeFunc rfl rfl) rfl <| en_det (opT_assign rfl) rfl <| en_nil <| en_then <| en_seq <| en_seq <| en_region <| en_det (opT_move rfl) rfl <| en_det (opT_eql_f rfl rfl (by omega)) rfl <| en_nil <| en_then <| en_cond_f rfl <| en_skip <| en_then <| en_seq <| en_seq <| en_region <| en_det (opT_move rfl) rfl <| en_nil <| en_then <| en_block <| ?_
    refine en_loop (fun x : Nat × Heap => x.1 ≤ 6 ∧ h6.sub x.2) (fun x => [(5, pt b5), (6, pt c2), (7, pt b7), (8, nilS), (9, .int .i64 1), (12, .func (.func 17) #[] #[pt b5, pt b7]), (69, .int .i64 x.1)]) (fun x => x.2) (fun _ => [box b7 31 (trayL left), Chute c2 v2 y2.length, box b5 26 [.slice tad b.nt tcp, .slice had b.nh hcp]]) (fun x => 6 - x.1) (0, h6) ⟨by simp, .refl _⟩ ⟨rfl, rfl, rfl, rfl, rfl, rfl, rfl, trivial⟩ (.refl _) (tkAll _) fun x hx => ?_
    obtain ⟨k, h7⟩ := x
    obtain ⟨hk6, s7⟩ := hx
    simp only at hk6 s7
    change En _ _ _ [(5, pt b5), (6, pt c2), (7, pt b7), (8, nilS), (9, .int .i64 1), (12, .func (.func 17) #[] #[pt b5, pt b7]), (69, .int .i64 k)] h7 [box b7 31 (trayL left), Chute c2 v2 y2.length, box b5 26 [.slice tad b.nt tcp, .slice had b.nh hcp]]
    refine en_seq <| en_region <| ?_
    first | refine en_det (opT_lss_t rfl rfl (by omega)) rfl ?_ | refine en_det (opT_lss_f rfl rfl (by omega)) rfl ?_ | refine en_det (opT_lss rfl rfl) rfl ?_
    refine en_nil <| en_then <| en_seq <| ?_
    refine en_if rfl (fun hlt1 => ?_) (fun hlt1 => ?_)
    · skip
      refine en_own_nil 3 1 ?_
      refine en_skip <| en_then <| en_seq <| en_block <| en_seq <| en_region <| en_det (opT_assign rfl) rfl <| en_nil <| en_then <| en_seq <| en_seq <| en_region <| en_det (opT_fieldAddr rfl) rfl <| en_det (opT_load_own rfl rfl) rfl <| en_det (opT_len rfl) rfl <| en_det (opT_move rfl) rfl <| en_nil <| en_then <| en_block <| ?_
      refine en_loop (fun x : Nat × (Nat → Bool) × Option Addr × Nat × Heap => x.1 ≤ b.nh ∧ h7.sub x.2.2.2.2) (fun x => [(5, pt b5), (6, pt c2), (7, pt b7), (8, nilS), (9, .int .i64 1), (12, .func (.func 17) #[] #[pt b5, pt b7]), (69, .int .i64 k), (15, .slice x.2.2.1 ((List.range x.1).filter x.2.1).length x.2.2.2.1), (73, .int .i64 b.nh), (74, .int .i64 x.1)]) (fun x => x.2.2.2.2) (fun x => [own 3 1 (.slice x.2.2.1 ((List.range x.1).filter x.2.1).length x.2.2.2.1) ((List.range x.1).filter x.2.1).length ((natsI ((List.range x.1).filter x.2.1)).map (Value.int .i64)), box b7 31 (trayL left), Chute c2 v2 y2.length, box b5 26 [.slice tad b.nt tcp, .slice had b.nh hcp]]) (fun x => b.nh - x.1) (0, (fun _ => false), none, 0, h7) ⟨by simp, .refl _⟩ ⟨rfl, rfl, rfl, rfl, rfl, rfl, rfl, rfl, rfl, rfl, trivial⟩ (.refl _) (tkAll _) fun x hx => ?_
      obtain ⟨t, p, rad, rcp, h8⟩ := x
      obtain ⟨ht, s8⟩ := hx
      simp only at ht s8
      change En _ _ _ [(5, pt b5), (6, pt c2), (7, pt b7), (8, nilS), (9, .int .i64 1), (12, .func (.func 17) #[] #[pt b5, pt b7]), (69, .int .i64 k), (15, .slice rad ((List.range t).filter p).length rcp), (73, .int .i64 b.nh), (74, .int .i64 t)] h8 [own 3 1 (.slice rad ((List.range t).filter p).length rcp) ((List.range t).filter p).length ((natsI ((List.range t).filter p)).map (Value.int .i64)), box b7 31 (trayL left), Chute c2 v2 y2.length, box b5 26 [.slice tad b.nt tcp, .slice had b.nh hcp]]
      have hfl := filter_len p t
      refine en_seq <| en_region <| ?_
      first | refine en_det (opT_lss_t rfl rfl (by omega)) rfl ?_ | refine en_det (opT_lss_f rfl rfl (by omega)) rfl ?_ | refine en_det (opT_lss rfl rfl) rfl ?_
      refine en_nil <| en_then <| en_seq <| ?_
      refine en_if rfl (fun hlt2 => ?_) (fun hlt2 => ?_)
      · skip
        have htk : t < b.nh := by omega
        refine en_skip <| en_then <| en_seq <| en_block <| en_seq <| en_region <| en_det (opT_move rfl) rfl <| en_det (opT_assign rfl) rfl <| en_nil <| en_then <| en_seq <| en_region <| en_det (opT_move rfl) rfl <| ?_
        refine en_callq (in18_ct h8 c2 v2 y2 2 (y25.mono (s6.trans (s7.trans s8))) (by omega)) rfl rfl rfl rfl fun v h9 s9 hv => ?_
        obtain ⟨bb, rfl⟩ := hv
        have hfs := filter_step p t bb
        skip
        cases bb with
        | true =>
          rw [if_pos rfl] at hfs
          refine en_nil <| en_then <| en_cond_t rfl <| en_region <| en_det (opT_move rfl) rfl <| en_det (opT_move rfl) rfl <| ?_
          refine en_op (opT_buildSlice (cs := [.int .i64 t]) rfl rfl (by kernel_rfl)) rfl fun _ _ _ _ ⟨b81, e1, e2, e3⟩ => ?_
          subst e1 e3; replace e2 := e2.symm; subst e2
          refine en_app1 rfl rfl rfl rfl rfl rfl rfl (by omega) fun ad82 cp82 hm82 hc82 => ?_
          refine en_det (opT_assign rfl) rfl <| en_nil <| en_blk <| en_then <| en_region <| en_det (opT_add rfl rfl (by constructor <;> omega)) rfl <| en_det (opT_move rfl) rfl <| en_nil <| en_then <| ?_
          refine en_again (t + 1, (fun i => if i = t then true else p i), ad82, cp82, h9) ⟨by simp only; omega, s8.trans s9⟩ (by simp only; omega) ⟨rfl, rfl, rfl, rfl, rfl, rfl, rfl, (by
            simp only [hfs, List.length_append, List.length_cons, List.length_nil]; rfl), rfl, gi rfl (by simp), trivial⟩ (.refl _) (by
            simp only [hfs, natsI, List.map_append, List.map_cons, List.map_nil, List.length_append, List.length_cons, List.length_nil]; exact inferInstance)
        | false =>
          simp only [Bool.false_eq_true, if_false, List.append_nil] at hfs
          refine en_nil <| en_then <| en_cond_f rfl <| en_skip <| en_blk <| en_then <| en_region <| en_det (opT_add rfl rfl (by constructor <;> omega)) rfl <| en_det (opT_move rfl) rfl <| en_nil <| en_then <| ?_
          refine en_again (t + 1, (fun i => if i = t then false else p i), rad, rcp, h9) ⟨by simp only; omega, s8.trans s9⟩ (by simp only; omega) ⟨rfl, rfl, rfl, rfl, rfl, rfl, rfl, (by simp only [hfs]; rfl), rfl, gi rfl (by simp), trivial⟩ (.refl _) (by
            simp only [hfs]; exact inferInstance)
      · skip
        obtain rfl : t = b.nh := by omega
        refine en_freeze_own fun h9 s9 hsl _ => ?_
        have hRI : IsInts h9 (.slice rad ((List.range b.nh).filter p).length rcp) (natsI ((List.range b.nh).filter p)) := by
          unfold IsInts; rw [natsI_len]; exact hsl
        have cW := with_ct h9 b5 b7 _ _ _ b left p (B5.mono (s6.trans (s7.trans (s8.trans s9)))) hk hl hRI
        rw [hno p] at cW
        refine en_exit <| en_then_exit <| en_then_exit <| en_blk_hit <| en_then <| en_seq <| en_region <| en_det (opT_move rfl) rfl <| en_det (opT_move rfl) rfl <| ?_
        refine en_call cW rfl rfl rfl rfl fun v h10 Γ' s10 hv => ?_
        obtain ⟨rfl, rfl⟩ := hv
        refine en_norm ?_
        refine en_det (opT_move rfl) rfl <| en_det (opT_extract rfl rfl) rfl <| en_det (opT_extract rfl rfl) rfl <| en_det (opT_assign rfl) rfl <| en_det (opT_assign rfl) rfl <| en_nil <| en_then <| en_seq <| en_region <| en_det (opT_move rfl) rfl <| ?_
        first | refine en_det (opT_not_t rfl) rfl ?_ | refine en_det (opT_not_f rfl) rfl ?_ | refine en_det (opT_not rfl) rfl ?_
        refine en_det (opT_move rfl) rfl <| en_g_yes rfl rfl <| en_det (opT_move rfl) rfl <| en_g_yes rfl rfl <| en_det (opT_move rfl) rfl <| en_g_no rfl rfl rfl <| en_g_no rfl rfl rfl <| en_g_no rfl rfl rfl <| en_g_undef rfl rfl rfl <| en_g_undef rfl rfl rfl <| en_g_undef rfl rfl rfl <| en_g_undef rfl rfl rfl <| en_g_undef rfl rfl rfl <| en_g_no rfl rfl rfl <| en_g_no rfl rfl rfl <| en_g_undef rfl rfl rfl <| en_g_undef rfl rfl rfl <| en_g_undef rfl rfl rfl <| en_g_undef rfl rfl rfl <| en_g_undef rfl rfl rfl <| en_g_undef rfl rfl rfl <| en_g_undef rfl rfl rfl <| en_g_undef rfl rfl rfl <| en_g_undef rfl rfl rfl <| en_g_undef rfl rfl rfl <| en_g_undef rfl rfl rfl <| en_g_no rfl rfl rfl <| en_g_yes rfl rfl <| ?_
        first | refine en_det (opT_pick_t rfl rfl) rfl ?_ | refine en_det (opT_pick_f rfl rfl) rfl ?_
        first | refine en_det (opT_pick_t rfl rfl) rfl ?_ | refine en_det (opT_pick_f rfl rfl) rfl ?_
        refine en_nil <| en_then <| en_cond_f rfl <| en_skip <| en_blk <| en_then <| en_region <| en_det (opT_add rfl rfl (by constructor <;> omega)) rfl <| en_det (opT_move rfl) rfl <| en_nil <| en_then <| ?_
        exact en_again (k + 1, h10) ⟨by simp only; omega, s7.trans (s8.trans (s9.trans s10))⟩ (by simp only; omega) ⟨rfl, rfl, rfl, rfl, rfl, rfl, gi rfl (by simp), trivial⟩ (.refl _) inferInstance
    · skip
      refine en_exit <| en_then_exit <| en_then_exit <| en_blk_hit <| en_then <| en_seq <| en_region <| ?_
      refine en_call (awake_ct h7) rfl rfl rfl rfl fun v h8 Γ' s8 hv => ?_
      obtain ⟨rfl, rfl⟩ := hv
      refine en_norm ?_
      refine en_det (opT_assign rfl) rfl <| en_nil <| en_then <| en_ret <| ?_
      refine en_return (rs := [.tmp 4]) rfl (.cons (.tmp rfl) .nil) (s1.trans (s2.trans (s3.trans (s4.trans (s5.trans (s6.trans (s7.trans s8))))))) (Γ1 := []) ⟨rfl, rfl⟩
  · rw [hf] at cC
    obtain ⟨⟨pf, hpf⟩, hcf⟩ := hE.some hf
    have hfe := hfv
    rw [hpf] at hfe
    obtain ⟨_, fad, fcp, rfl, fq⟩ := id hfv
    clear fq
    refine en_det (opT_move rfl) rfl <| en_det (opT_extract rfl rfl) rfl <| en_det (opT_extract rfl rfl) rfl <| en_det (opT_assign rfl) rfl <| en_det (opT_assign rfl) rfl <| en_nil <| en_then <| en_seq <| en_region <| ?_
    first | refine en_det (opT_loadW_own rfl rfl) rfl ?_ | refine en_det (opT_loadA_own rfl) rfl ?_
    refine en_det (opT_loadW_own rfl (row_length _ _)) rfl <| ?_
    refine en_call cC rfl rfl rfl rfl fun v h6a Γ' s6a hv => ?_
    obtain ⟨rfl, rfl⟩ := hv
    refine en_norm ?_
    have cW0 := with_ct h6a b5 b7 _ _ _ b left pf (B5.mono s6a) hk hl (hfe.mono s6a)
    rw [← hpf, hcf] at cW0
    refine en_det (opT_move rfl) rfl <| en_det (opT_extract rfl rfl) rfl <| en_det (opT_extract rfl rfl) rfl <| en_det (opT_assign rfl) rfl <| en_det (opT_assign rfl) rfl <| en_nil <| en_then <| en_seq <| en_seq <| en_region <| en_det (opT_move rfl) rfl <| en_det (opT_neq_f rfl rfl (by omega)) rfl <| en_det (opT_move rfl) rfl <| en_g_yes rfl rfl <| en_det (opT_move rfl) rfl <| en_g_yes rfl rfl <| en_det (opT_move rfl) rfl <| en_g_yes rfl rfl <| en_det (opT_eql_t rfl rfl (by omega)) rfl <| en_g_yes rfl rfl <| en_det (opT_neB rfl rfl) rfl <| ?_
    first | refine en_det (opT_pick_t rfl rfl) rfl ?_ | refine en_det (opT_pick_f rfl rfl) rfl ?_
    refine en_det (opT_move rfl) rfl <| en_g_yes rfl rfl <| en_det (opT_move rfl) rfl <| en_g_yes rfl rfl <| en_det (opT_neq_f rfl rfl (by omega)) rfl <| en_g_yes rfl rfl <| en_det (opT_move rfl) rfl <| en_g_no rfl rfl rfl <| en_g_no rfl rfl rfl <| en_g_yes rfl rfl <| ?_
    first | refine en_det (opT_pick_t rfl rfl) rfl ?_ | refine en_det (opT_pick_f rfl rfl) rfl ?_
    first | refine en_det (opT_pick_t rfl rfl) rfl ?_ | refine en_det (opT_pick_f rfl rfl) rfl ?_
    refine en_nil <| en_then <| en_cond_f rfl <| en_skip <| en_then <| en_seq <| en_region <| en_det (opT_makeFunc rfl rfl) rfl <| en_det (opT_assign rfl) rfl <| en_nil <| en_then <| en_seq <| en_seq <| en_region <| en_det (opT_move rfl) rfl <| en_det (opT_eql_t rfl rfl (by omega)) rfl <| en_nil <| en_then <| en_cond_t rfl <| en_seq <| en_region <| en_det (opT_move rfl) rfl <| en_det (opT_move rfl) rfl <| ?_
    refine en_call cW0 rfl rfl rfl rfl fun v h6 Γ' s6 hv => ?_
    obtain ⟨rfl, rfl⟩ := hv
    refine en_norm ?_
    refine en_det (opT_move rfl) rfl <| en_det (opT_extract rfl rfl) rfl <| en_det (opT_extract rfl rfl) rfl <| en_det (opT_assign rfl) rfl <| en_det (opT_assign rfl) rfl <| en_nil <| en_then <| en_seq <| en_region <| en_det (opT_move rfl) rfl <| ?_
    first | refine en_det (opT_not_t rfl) rfl ?_ | refine en_det (opT_not_f rfl) rfl ?_ | refine en_det (opT_not rfl) rfl ?_
    refine en_det (opT_move rfl) rfl <| en_g_yes rfl rfl <| en_det (opT_move rfl) rfl <| en_g_yes rfl rfl <| ?_
    first | refine en_det (opT_not_t rfl) rfl ?_ | refine en_det (opT_not_f rfl) rfl ?_ | refine en_det (opT_not rfl) rfl ?_
    first | refine en_det (opT_pick_t rfl rfl) rfl ?_ | refine en_det (opT_pick_f rfl rfl) rfl ?_
    refine en_nil <| en_then <| en_cond_f rfl <| en_skip <| en_then <| en_seq <| en_seq <| en_region <| en_det (opT_move rfl) rfl <| en_nil <| en_then <| en_block <| ?_
    refine en_loop (fun x : Nat × Heap => x.1 ≤ 6 ∧ h6.sub x.2) (fun x => [(5, pt b5), (6, pt c2), (7, pt b7), (8, (.slice fad (natsI (fewB b left).1).length fcp)), (9, .int .i64 0), (12, .func (.func 17) #[] #[pt b5, pt b7]), (69, .int .i64 x.1)]) (fun x => x.2) (fun _ => [box b7 31 (trayL left), Chute c2 v2 y2.length, box b5 26 [.slice tad b.nt tcp, .slice had b.nh hcp]]) (fun x => 6 - x.1) (0, h6) ⟨by simp, .refl _⟩ ⟨rfl, rfl, rfl, rfl, rfl, rfl, rfl, trivial⟩ (.refl _) inferInstance fun x hx => ?_
    obtain ⟨k, h7⟩ := x
    obtain ⟨hk6, s7⟩ := hx
    simp only at hk6 s7
    change En _ _ _ [(5, pt b5), (6, pt c2), (7, pt b7), (8, (.slice fad (natsI (fewB b left).1).length fcp)), (9, .int .i64 0), (12, .func (.func 17) #[] #[pt b5, pt b7]), (69, .int .i64 k)] h7 [box b7 31 (trayL left), Chute c2 v2 y2.length, box b5 26 [.slice tad b.nt tcp, .slice had b.nh hcp]]
    refine en_seq <| en_region <| ?_
    first | refine en_det (opT_lss_t rfl rfl (by omega)) rfl ?_ | refine en_det (opT_lss_f rfl rfl (by omega)) rfl ?_ | refine en_det (opT_lss rfl rfl) rfl ?_
    refine en_nil <| en_then <| en_seq <| ?_
    refine en_if rfl (fun hlt1 => ?_) (fun hlt1 => ?_)
    · skip
      refine en_own_nil 3 1 ?_
      refine en_skip <| en_then <| en_seq <| en_block <| en_seq <| en_region <| en_det (opT_assign rfl) rfl <| en_nil <| en_then <| en_seq <| en_seq <| en_region <| en_det (opT_fieldAddr rfl) rfl <| en_det (opT_load_own rfl rfl) rfl <| en_det (opT_len rfl) rfl <| en_det (opT_move rfl) rfl <| en_nil <| en_then <| en_block <| ?_
      refine en_loop (fun x : Nat × (Nat → Bool) × Option Addr × Nat × Heap => x.1 ≤ b.nh ∧ h7.sub x.2.2.2.2) (fun x => [(5, pt b5), (6, pt c2), (7, pt b7), (8, (.slice fad (natsI (fewB b left).1).length fcp)), (9, .int .i64 0), (12, .func (.func 17) #[] #[pt b5, pt b7]), (69, .int .i64 k), (15, .slice x.2.2.1 ((List.range x.1).filter x.2.1).length x.2.2.2.1), (73, .int .i64 b.nh), (74, .int .i64 x.1)]) (fun x => x.2.2.2.2) (fun x => [own 3 1 (.slice x.2.2.1 ((List.range x.1).filter x.2.1).length x.2.2.2.1) ((List.range x.1).filter x.2.1).length ((natsI ((List.range x.1).filter x.2.1)).map (Value.int .i64)), box b7 31 (trayL left), Chute c2 v2 y2.length, box b5 26 [.slice tad b.nt tcp, .slice had b.nh hcp]]) (fun x => b.nh - x.1) (0, (fun _ => false), none, 0, h7) ⟨by simp, .refl _⟩ ⟨rfl, rfl, rfl, rfl, rfl, rfl, rfl, rfl, rfl, rfl, trivial⟩ (.refl _) (tkAll _) fun x hx => ?_
      obtain ⟨t, p, rad, rcp, h8⟩ := x
      obtain ⟨ht, s8⟩ := hx
      simp only at ht s8
      change En _ _ _ [(5, pt b5), (6, pt c2), (7, pt b7), (8, (.slice fad (natsI (fewB b left).1).length fcp)), (9, .int .i64 0), (12, .func (.func 17) #[] #[pt b5, pt b7]), (69, .int .i64 k), (15, .slice rad ((List.range t).filter p).length rcp), (73, .int .i64 b.nh), (74, .int .i64 t)] h8 [own 3 1 (.slice rad ((List.range t).filter p).length rcp) ((List.range t).filter p).length ((natsI ((List.range t).filter p)).map (Value.int .i64)), box b7 31 (trayL left), Chute c2 v2 y2.length, box b5 26 [.slice tad b.nt tcp, .slice had b.nh hcp]]
      have hfl := filter_len p t
      refine en_seq <| en_region <| ?_
      first | refine en_det (opT_lss_t rfl rfl (by omega)) rfl ?_ | refine en_det (opT_lss_f rfl rfl (by omega)) rfl ?_ | refine en_det (opT_lss rfl rfl) rfl ?_
      refine en_nil <| en_then <| en_seq <| ?_
      refine en_if rfl (fun hlt2 => ?_) (fun hlt2 => ?_)
      · skip
        have htk : t < b.nh := by omega
        refine en_skip <| en_then <| en_seq <| en_block <| en_seq <| en_region <| en_det (opT_move rfl) rfl <| en_det (opT_assign rfl) rfl <| en_nil <| en_then <| en_seq <| en_region <| en_det (opT_move rfl) rfl <| ?_
        refine en_callq (in18_ct h8 c2 v2 y2 2 (y25.mono (s6a.trans (s6.trans (s7.trans s8)))) (by omega)) rfl rfl rfl rfl fun v h9 s9 hv => ?_
        obtain ⟨bb, rfl⟩ := hv
        have hfs := filter_step p t bb
        skip
        cases bb with
        | true =>
          rw [if_pos rfl] at hfs
          refine en_nil <| en_then <| en_cond_t rfl <| en_region <| en_det (opT_move rfl) rfl <| en_det (opT_move rfl) rfl <| ?_
          refine en_op (opT_buildSlice (cs := [.int .i64 t]) rfl rfl (by kernel_rfl)) rfl fun _ _ _ _ ⟨b81, e1, e2, e3⟩ => ?_
          subst e1 e3; replace e2 := e2.symm; subst e2
          refine en_app1 rfl rfl rfl rfl rfl rfl rfl (by omega) fun ad82 cp82 hm82 hc82 => ?_
          refine en_det (opT_assign rfl) rfl <| en_nil <| en_blk <| en_then <| en_region <| en_det (opT_add rfl rfl (by constructor <;> omega)) rfl <| en_det (opT_move rfl) rfl <| en_nil <| en_then <| ?_
          refine en_again (t + 1, (fun i => if i = t then true else p i), ad82, cp82, h9) ⟨by simp only; omega, s8.trans s9⟩ (by simp only; omega) ⟨rfl, rfl, rfl, rfl, rfl, rfl, rfl, (by
            simp only [hfs, List.length_append, List.length_cons, List.length_nil]; rfl), rfl, gi rfl (by simp), trivial⟩ (.refl _) (by
            simp only [hfs, natsI, List.map_append, List.map_cons, List.map_nil, List.length_append, List.length_cons, List.length_nil]; exact inferInstance)
        | false =>
          simp only [Bool.false_eq_true, if_false, List.append_nil] at hfs
          refine en_nil <| en_then <| en_cond_f rfl <| en_skip <| en_blk <| en_then <| en_region <| en_det (opT_add rfl rfl (by constructor <;> omega)) rfl <| en_det (opT_move rfl) rfl <| en_nil <| en_then <| ?_
          refine en_again (t + 1, (fun i => if i = t then false else p i), rad, rcp, h9) ⟨by simp only; omega, s8.trans s9⟩ (by simp only; omega) ⟨rfl, rfl, rfl, rfl, rfl, rfl, rfl, (by simp only [hfs]; rfl), rfl, gi rfl (by simp), trivial⟩ (.refl _) (by
            simp only [hfs]; exact inferInstance)
      · skip
        obtain rfl : t = b.nh := by omega
        refine en_freeze_own fun h9 s9 hsl _ => ?_
        have hRI : IsInts h9 (.slice rad ((List.range b.nh).filter p).length rcp) (natsI ((List.range b.nh).filter p)) := by
          unfold IsInts; rw [natsI_len]; exact hsl
        have cW := with_ct h9 b5 b7 _ _ _ b left p (B5.mono (s6a.trans (s6.trans (s7.trans (s8.trans s9))))) hk hl hRI
        have hfew := hfv.mono (s6a.trans (s6.trans (s7.trans (s8.trans s9))))
        have hless := hE.less hf p
        have hn2 : (natsI (fewB b left).1).length = (fewB b left).1.length := natsI_len _
        cases hcl : cleanB b (keptD left) ((List.range b.nh).filter p) with
        | false =>
          rw [hcl] at cW
          skip
          refine en_exit <| en_then_exit <| en_then_exit <| en_blk_hit <| en_then <| en_seq <| en_region <| en_det (opT_move rfl) rfl <| en_det (opT_move rfl) rfl <| ?_
          refine en_call cW rfl rfl rfl rfl fun v h10 Γ' s10 hv => ?_
          obtain ⟨rfl, rfl⟩ := hv
          refine en_norm ?_
          refine en_det (opT_move rfl) rfl <| en_det (opT_extract rfl rfl) rfl <| en_det (opT_extract rfl rfl) rfl <| en_det (opT_assign rfl) rfl <| en_det (opT_assign rfl) rfl <| en_nil <| en_then <| en_seq <| en_region <| en_det (opT_move rfl) rfl <| ?_
          first | refine en_det (opT_not_t rfl) rfl ?_ | refine en_det (opT_not_f rfl) rfl ?_ | refine en_det (opT_not rfl) rfl ?_
          refine en_det (opT_move rfl) rfl <| en_g_yes rfl rfl <| en_det (opT_move rfl) rfl <| en_g_yes rfl rfl <| en_det (opT_move rfl) rfl <| en_g_no rfl rfl rfl <| en_g_no rfl rfl rfl <| en_g_no rfl rfl rfl <| en_g_undef rfl rfl rfl <| en_g_undef rfl rfl rfl <| en_g_undef rfl rfl rfl <| en_g_undef rfl rfl rfl <| en_g_undef rfl rfl rfl <| en_g_no rfl rfl rfl <| en_g_no rfl rfl rfl <| en_g_undef rfl rfl rfl <| en_g_undef rfl rfl rfl <| en_g_undef rfl rfl rfl <| en_g_undef rfl rfl rfl <| en_g_undef rfl rfl rfl <| en_g_undef rfl rfl rfl <| en_g_undef rfl rfl rfl <| en_g_undef rfl rfl rfl <| en_g_undef rfl rfl rfl <| en_g_undef rfl rfl rfl <| en_g_undef rfl rfl rfl <| en_g_no rfl rfl rfl <| en_g_yes rfl rfl <| ?_
          first | refine en_det (opT_pick_t rfl rfl) rfl ?_ | refine en_det (opT_pick_f rfl rfl) rfl ?_
          first | refine en_det (opT_pick_t rfl rfl) rfl ?_ | refine en_det (opT_pick_f rfl rfl) rfl ?_
          refine en_nil <| en_then <| en_cond_f rfl <| en_skip <| en_blk <| en_then <| en_region <| en_det (opT_add rfl rfl (by constructor <;> omega)) rfl <| en_det (opT_move rfl) rfl <| en_nil <| en_then <| ?_
          exact en_again (k + 1, h10) ⟨by simp only; omega, s7.trans (s8.trans (s9.trans s10))⟩ (by simp only; omega) ⟨rfl, rfl, rfl, rfl, rfl, rfl, gi rfl (by simp), trivial⟩ (.refl _) inferInstance
        | true =>
          rw [hcl] at cW
          have hnl := hless hcl
          have hL : ¬ ((List.range b.nh).filter p).length < (fewB b left).1.length := fun hh => hnl (.inl hh)
          have hC : ((List.range b.nh).filter p).length = (fewB b left).1.length → ¬ cmpD (natsI ((List.range b.nh).filter p)) (natsI (fewB b left).1) < 0 := fun h1 h2 => hnl (.inr ⟨h1, h2⟩)
          refine en_exit <| en_then_exit <| en_then_exit <| en_blk_hit <| en_then <| en_seq <| en_region <| en_det (opT_move rfl) rfl <| en_det (opT_move rfl) rfl <| ?_
          refine en_call cW rfl rfl rfl rfl fun v h10 Γ' s10 hv => ?_
          obtain ⟨rfl, rfl⟩ := hv
          refine en_norm ?_
          skip
          by_cases hlen : ((List.range b.nh).filter p).length = (fewB b left).1.length
          · have hcmp := hC hlen
            have cM := compare_ct h10 _ _ _ _ (hRI.mono s10) (hfew.mono s10)
            refine en_det (opT_move rfl) rfl <| en_det (opT_extract rfl rfl) rfl <| en_det (opT_extract rfl rfl) rfl <| en_det (opT_assign rfl) rfl <| en_det (opT_assign rfl) rfl <| en_nil <| en_then <| en_seq <| en_region <| en_det (opT_move rfl) rfl <| ?_
            first | refine en_det (opT_not_t rfl) rfl ?_ | refine en_det (opT_not_f rfl) rfl ?_ | refine en_det (opT_not rfl) rfl ?_
            refine en_det (opT_move rfl) rfl <| en_g_yes rfl rfl <| en_det (opT_move rfl) rfl <| en_g_yes rfl rfl <| en_det (opT_move rfl) rfl <| en_g_yes rfl rfl <| en_det (opT_move rfl) rfl <| en_g_yes rfl rfl <| en_det (opT_neq_f rfl rfl (by omega)) rfl <| en_g_yes rfl rfl <| en_det (opT_move rfl) rfl <| en_g_yes rfl rfl <| en_det (opT_move rfl) rfl <| en_g_yes rfl rfl <| en_det (opT_len rfl) rfl <| en_g_yes rfl rfl <| en_det (opT_move rfl) rfl <| en_g_yes rfl rfl <| en_det (opT_len rfl) rfl <| en_g_yes rfl rfl <| en_det (opT_lss_f rfl rfl (by omega)) rfl <| en_g_yes rfl rfl <| ?_
            first | refine en_det (opT_pick_t rfl rfl) rfl ?_ | refine en_det (opT_pick_f rfl rfl) rfl ?_
            refine en_g_yes rfl rfl <| en_det (opT_move rfl) rfl <| en_g_yes rfl rfl <| en_det (opT_move rfl) rfl <| en_g_yes rfl rfl <| en_det (opT_len rfl) rfl <| en_g_yes rfl rfl <| en_det (opT_move rfl) rfl <| en_g_yes rfl rfl <| en_det (opT_len rfl) rfl <| en_g_yes rfl rfl <| en_det (opT_eql_t rfl rfl (by omega)) rfl <| en_g_yes rfl rfl <| en_det (opT_move rfl) rfl <| en_g_yes rfl rfl <| en_det (opT_move rfl) rfl <| en_g_yes rfl rfl <| en_det (opT_move rfl) rfl <| en_g_yes rfl rfl <| en_calld (cM) rfl rfl rfl rfl <| en_g_yes rfl rfl <| en_det (opT_lss_f rfl rfl (by omega)) rfl <| en_g_yes rfl rfl <| ?_
            first | refine en_det (opT_pick_t rfl rfl) rfl ?_ | refine en_det (opT_pick_f rfl rfl) rfl ?_
            refine en_g_yes rfl rfl <| ?_
            first | refine en_det (opT_pick_t rfl rfl) rfl ?_ | refine en_det (opT_pick_f rfl rfl) rfl ?_
            refine en_g_yes rfl rfl <| ?_
            first | refine en_det (opT_pick_t rfl rfl) rfl ?_ | refine en_det (opT_pick_f rfl rfl) rfl ?_
            first | refine en_det (opT_pick_t rfl rfl) rfl ?_ | refine en_det (opT_pick_f rfl rfl) rfl ?_
            refine en_nil <| en_then <| en_cond_f rfl <| en_skip <| en_blk <| en_then <| en_region <| en_det (opT_add rfl rfl (by constructor <;> omega)) rfl <| en_det (opT_move rfl) rfl <| en_nil <| en_then <| ?_
            exact en_again (k + 1, h10) ⟨by simp only; omega, s7.trans (s8.trans (s9.trans s10))⟩ (by simp only; omega) ⟨rfl, rfl, rfl, rfl, rfl, rfl, gi rfl (by simp), trivial⟩ (.refl _) inferInstance
          · skip
            refine en_det (opT_move rfl) rfl <| en_det (opT_extract rfl rfl) rfl <| en_det (opT_extract rfl rfl) rfl <| en_det (opT_assign rfl) rfl <| en_det (opT_assign rfl) rfl <| en_nil <| en_then <| en_seq <| en_region <| en_det (opT_move rfl) rfl <| ?_
            first | refine en_det (opT_not_t rfl) rfl ?_ | refine en_det (opT_not_f rfl) rfl ?_ | refine en_det (opT_not rfl) rfl ?_
            refine en_det (opT_move rfl) rfl <| en_g_yes rfl rfl <| en_det (opT_move rfl) rfl <| en_g_yes rfl rfl <| en_det (opT_move rfl) rfl <| en_g_yes rfl rfl <| en_det (opT_move rfl) rfl <| en_g_yes rfl rfl <| en_det (opT_neq_f rfl rfl (by omega)) rfl <| en_g_yes rfl rfl <| en_det (opT_move rfl) rfl <| en_g_yes rfl rfl <| en_det (opT_move rfl) rfl <| en_g_yes rfl rfl <| en_det (opT_len rfl) rfl <| en_g_yes rfl rfl <| en_det (opT_move rfl) rfl <| en_g_yes rfl rfl <| en_det (opT_len rfl) rfl <| en_g_yes rfl rfl <| en_det (opT_lss_f rfl rfl (by omega)) rfl <| en_g_yes rfl rfl <| ?_
            first | refine en_det (opT_pick_t rfl rfl) rfl ?_ | refine en_det (opT_pick_f rfl rfl) rfl ?_
            refine en_g_yes rfl rfl <| en_det (opT_move rfl) rfl <| en_g_yes rfl rfl <| en_det (opT_move rfl) rfl <| en_g_yes rfl rfl <| en_det (opT_len rfl) rfl <| en_g_yes rfl rfl <| en_det (opT_move rfl) rfl <| en_g_yes rfl rfl <| en_det (opT_len rfl) rfl <| en_g_yes rfl rfl <| en_det (opT_eql_f rfl rfl (by omega)) rfl <| en_g_yes rfl rfl <| en_det (opT_move rfl) rfl <| en_g_no rfl rfl rfl <| en_g_no rfl rfl rfl <| en_g_no rfl rfl rfl <| en_g_no rfl rfl rfl <| en_g_yes rfl rfl <| ?_
            first | refine en_det (opT_pick_t rfl rfl) rfl ?_ | refine en_det (opT_pick_f rfl rfl) rfl ?_
            refine en_g_yes rfl rfl <| ?_
            first | refine en_det (opT_pick_t rfl rfl) rfl ?_ | refine en_det (opT_pick_f rfl rfl) rfl ?_
            refine en_g_yes rfl rfl <| ?_
            first | refine en_det (opT_pick_t rfl rfl) rfl ?_ | refine en_det (opT_pick_f rfl rfl) rfl ?_
            first | refine en_det (opT_pick_t rfl rfl) rfl ?_ | refine en_det (opT_pick_f rfl rfl) rfl ?_
            refine en_nil <| en_then <| en_cond_f rfl <| en_skip <| en_blk <| en_then <| en_region <| en_det (opT_add rfl rfl (by constructor <;> omega)) rfl <| en_det (opT_move rfl) rfl <| en_nil <| en_then <| ?_
            exact en_again (k + 1, h10) ⟨by simp only; omega, s7.trans (s8.trans (s9.trans s10))⟩ (by simp only; omega) ⟨rfl, rfl, rfl, rfl, rfl, rfl, gi rfl (by simp), trivial⟩ (.refl _) inferInstance
    · skip
      refine en_exit <| en_then_exit <| en_then_exit <| en_blk_hit <| en_then <| en_seq <| en_region <| ?_
      refine en_call (awake_ct h7) rfl rfl rfl rfl fun v h8 Γ' s8 hv => ?_
      obtain ⟨rfl, rfl⟩ := hv
      refine en_norm ?_
      refine en_det (opT_assign rfl) rfl <| en_nil <| en_then <| en_ret <| ?_
      refine en_return (rs := [.tmp 4]) rfl (.cons (.tmp rfl) .nil) (s1.trans (s2.trans (s3.trans (s4.trans (s5.trans (s6a.trans (s6.trans (s7.trans s8)))))))) (Γ1 := []) ⟨rfl, rfl⟩
end Go.Sx

/- The law BeltMore: the walk, its first half. -/
namespace Go.Sx
open Go.Proofs
set_option maxRecDepth 100000
section
variable {n : Nat} {Φ : Fr} {Tt : Act → World → Prop} {ρ : Env} {h : Heap} {Γ : List HP}
/-- The array behind an owned slice, what it has beyond included; and back. -/
theorem en_own_box {T : TypeId} {sz m cp : Nat} {ad : Option Addr} {xs : List Value} (hm : 0 < m)
    (H : ∀ b tail, ad = some ⟨b, 0, none⟩ → (xs ++ tail).length = cp * sz → xs.length = m * sz → En n Φ Tt ρ h (box b T (xs ++ tail) :: Γ)) : En n Φ Tt ρ h (own T sz (.slice ad m cp) m xs :: Γ) :=
  en_of_own hm fun b cap cs hv hmc hc hl ht => by
    cases hv
    have hx : xs.length = m * sz := by rw [← ht, List.length_take, hl]; exact Nat.min_eq_left (Nat.mul_le_mul_right _ hmc)
    have e : cs = xs ++ cs.drop (m * sz) := by rw [← ht]; exact (List.take_append_drop _ _).symm
    have := H b (cs.drop (m * sz)) rfl (by rw [← e]; exact hl) hx
    rw [← e] at this; exact this
theorem en_box_own {T : TypeId} {sz m cp b : Nat} {xs tail : List Value} (hm : m ≤ cp) (hc : cp ≤ 9223372036854775807) (hl : (xs ++ tail).length = cp * sz) (hx : xs.length = m * sz)
    (H : En n Φ Tt ρ h (own T sz (.slice (some ⟨b, 0, none⟩) m cp) m xs :: Γ)) : En n Φ Tt ρ h (box b T (xs ++ tail) :: Γ) :=
  en_to_own sz m cp hm hc hl (by rw [← hx, List.take_left]; exact H)
end
theorem app_get {xs tail : List Value} {j : Nat} {v : Value} (h : xs[j]? = some v) : (xs ++ tail)[j]? = some v := by
  rw [List.getElem?_append_left (List.getElem?_eq_some_iff.1 h).1]; exact h
theorem rows_app_set {n w : Nat} {f : Nat → Nat → Value} {tail : List Value} {i j : Nat} (hi : i < n) (hj : j < w) (v : Value) : (rows n w f ++ tail).set (i * w + j) v = rows n w (fun a b => if a = i ∧ b = j then v else f a b) ++ tail := by
  rw [List.set_append_left _ _ (by rw [rows_length]; exact row_lt hi hj), rows_set hj]
theorem mostA_bound {b : BeltD} (hk : BOK b) : 0 ≤ mostA b ∧ mostA b ≤ 1600 := by
  have h := sumN_bound (n := b.nt) (f := mostT b) (B := 200) fun i _ => mostT_bound hk i
  have := hk.n8
  show 0 ≤ sumN b.nt (mostT b) ∧ sumN b.nt (mostT b) ≤ 1600
  have e : (200 : Int) * (b.nt : Int) ≤ 1600 := by omega
  omega
def addTr (b : BeltD) (a : Nat → Nat → Int) : Nat → Nat → Int := fun i m => b.tray i m + a i m
/-- What is added, so far. -/
structure AInv (nt t m : Nat) (a : Nat → Nat → Int) (added : Int) : Prop where
  r : ∀ i j, 0 ≤ a i j ∧ a i j ≤ 3
  z : ∀ i j, (t < i ∨ (i = t ∧ m ≤ j)) → a i j = 0
  s : added = sumA nt a
theorem AInv.start (nt : Nat) : AInv nt 0 0 (fun _ _ => 0) 0 := ⟨fun _ _ => by simp, fun _ _ _ => rfl, by unfold sumA sum5; rw [show (fun i : Nat => sumN 5 fun _ => (0 : Int)) = fun _ => 0 by funext i; exact sumN_zero 5, sumN_zero]⟩
theorem AInv.next {nt t m : Nat} {a : Nat → Nat → Int} {x : Int} (h : AInv nt t m a x) (h5 : 5 ≤ m) : AInv nt (t + 1) 0 a x := ⟨h.r, fun i j hx => h.z i j (by omega), h.s⟩
theorem AInv.add {nt t m : Nat} {a : Nat → Nat → Int} {x k : Int} (h : AInv nt t m a x) (ht : t < nt) (hm : m < 5) (h0 : 0 ≤ k) (h3 : k ≤ 3) : AInv nt t (m + 1) (upd2 a t m k) (x + k) := by
  have hz := h.z t m (.inr ⟨rfl, Nat.le_refl _⟩)
  refine ⟨fun i j => ?_, fun i j hx => ?_, ?_⟩
  · unfold upd2
    split
    · exact ⟨h0, h3⟩
    · exact h.r i j
  · unfold upd2
    split
    · omega
    · exact h.z i j (by omega)
  · rw [h.s]
    unfold sumA
    refine (sumN_upd (f := fun i => sum5 (a i)) (g := fun i => sum5 (upd2 a t m k i)) (i := t) (d := k) ht (fun j _ hj => by show sum5 (upd2 a t m k j) = _; rw [upd2_row_ne hj]) ?_).symm
    show sum5 (upd2 a t m k t) = sum5 (a t) + k
    unfold sum5
    exact sumN_upd hm (fun j _ hj => by simp [upd2, hj]) (by simp [upd2, hz])
theorem addTr_set (b : BeltD) (a : Nat → Nat → Int) (t m : Nat) (k : Int) (hz : a t m = 0) : (fun x y => if x = t ∧ y = m then Value.int .i64 (addTr b a t m + k) else icell (addTr b a) x y) = icell (addTr b (upd2 a t m k)) := by
  funext x y
  unfold icell addTr upd2
  by_cases e : x = t ∧ y = m
  · obtain ⟨rfl, rfl⟩ := e; simp [hz]
  · simp [e]
theorem addT_ok {b : BeltD} {T H : Int} (hM : MadeB b T H) (hT : T ≤ 8) (hH : H ≤ 5) {a : Nat → Nat → Int} (ha : ∀ i j, 0 ≤ a i j ∧ a i j ≤ 3) : BOK (addT b a) := by
  have hk := hM.ok hT hH
  exact ⟨hk.n1, hk.n8, hk.h5, fun i m hi hm => by have h1 := hM.tr i m hi hm; have h2 := ha i m; show 0 ≤ b.tray i m + a i m ∧ b.tray i m + a i m ≤ 60; omega, hk.ok, hk.sl, hk.re, hk.ri⟩
def tk3 (a c : Bool) : Nat → Bool := fun m => if m = 0 then true else if m = 1 then a else if m = 2 then c else false
def btab (tvs hvs : Nat → Value) : Nat → Nat → Value := fun i j => if j = 0 then tvs i else hvs i
def BeltsP (b : BeltD) (left : Nat → Int) (h : Heap) (k : Nat) (tvs hvs : Nat → Value) : Prop := ∀ i, i < k → ∃ o, IsBelt h (.agg #[tvs i, hvs i]) o ∧ Better b o left
theorem BeltsP.mono {b : BeltD} {left : Nat → Int} {h h' : Heap} (s : h.sub h') {k : Nat} {tvs hvs : Nat → Value} (x : BeltsP b left h k tvs hvs) : BeltsP b left h' k tvs hvs := fun i hi => by
  obtain ⟨o, a, c⟩ := x i hi; exact ⟨o, a.mono s, c⟩
theorem belts_snoc (k : Nat) (tvs hvs : Nat → Value) (tv hv : Value) : rows k 2 (btab tvs hvs) ++ [tv, hv] = rows (k + 1) 2 (btab (fun i => if i = k then tv else tvs i) (fun i => if i = k then hv else hvs i)) := by
  rw [rows_succ]
  congr 1
  · refine rows_congr fun i j hi _ => ?_
    have : i ≠ k := by omega
    simp [btab, this]
  · show [tv, hv] = row 2 _
    simp [row, btab, List.range_succ]
theorem BeltsP.snoc {b : BeltD} {left : Nat → Int} {h : Heap} {k : Nat} {tvs hvs : Nat → Value} (x : BeltsP b left h k tvs hvs) {tv hv : Value} {o : BeltD} (ho : IsBelt h (.agg #[tv, hv]) o) (hb : Better b o left) : BeltsP b left h (k + 1) (fun i => if i = k then tv else tvs i) (fun i => if i = k then hv else hvs i) := fun i hi => by
  by_cases e : i = k
  · subst e; simp only [if_true]; exact ⟨o, ho, hb⟩
  · simp only [e, if_false]; exact x i (by omega)
theorem hands_set (H : Nat → HandD) (rv : Nat → Value) (k c : Nat) (v : Value) (x : HandD) (hx : ∀ j, hcell x (rv k) j = if j = c then v else hcell (H k) (rv k) j) : (fun a j => if a = k ∧ j = c then v else hcell (H a) (rv a) j) = fun a => hcell ((fun i => if i = k then x else H i) a) (rv a) := by
  funext a j
  by_cases e : a = k
  · subst e
    simp only [if_true, true_and]
    rw [hx]
  · simp [e]
theorem hcell_str (H : HandD) (r : Value) (s : Int) (j : Nat) : hcell { H with str := s } r j = if j = 5 then .int .i64 s else hcell H r j := by
  unfold hcell
  by_cases e : j = 5
  · subst e; simp
  · simp [e]
theorem hcell_tire (H : HandD) (r : Value) (s : Int) (j : Nat) : hcell { H with tire := s } r j = if j = 6 then .int .i64 s else hcell H r j := by
  unfold hcell
  by_cases e : j = 6
  · subst e; simp
  · simp [e]
theorem hcell_take (H : HandD) (r : Value) (m : Nat) (hm : m < 5) (s : Bool) (j : Nat) : hcell { H with takes := fun c => if c = m then s else H.takes c } r j = if j = m then .bool s else hcell H r j := by
  unfold hcell
  by_cases e : j = m
  · subst e; simp [hm]
  · simp [e]
attribute [local irreducible] Code.wpIn wpListIn Exit.then Exit.inBlock BQ Again Hd St En OpT box blk RQ BQ0 fmap own Desk Chute
theorem more_ct (h : Heap) (v1 v2 : Value) (y1 y2 : List Int) (w : Int) (hy1 : IsBytes h v1 y1) (hy2 : IsBytes h v2 y2) (hw : 0 ≤ w ∧ w ≤ 255) : CT Try.prog 4 [v1, v2, .int .u8 w] h [] (DetW (.bool true) []) := by
  refine ct_intro Try.func4 rfl rfl rfl rfl fun Φ => ?_
  refine en_seq <| en_region <| en_det (opT_assign rfl) rfl <| en_nil <| en_then <| en_seq <| en_region <| en_det (opT_move rfl) rfl <| ?_
  refine en_call (fill_ct h v1 y1 hy1) rfl rfl rfl rfl fun v h1 Γ' s1 hv => ?_
  obtain ⟨c1, rfl, rfl⟩ := hv
  refine en_norm ?_
  refine en_det (opT_move rfl) rfl <| ?_
  refine en_call (fill_ct h1 v2 y2 (hy2.mono s1)) rfl rfl rfl rfl fun v h2 Γ' s2 hv => ?_
  obtain ⟨c2, rfl, rfl⟩ := hv
  refine en_norm ?_
  have z1 := hy1.mono (s1.trans s2)
  have z2 := hy2.mono (s1.trans s2)
  refine en_det (opT_assign rfl) rfl <| en_det (opT_assign rfl) rfl <| en_nil <| en_then <| en_seq <| en_region <| en_det (opT_move rfl) rfl <| ?_
  refine en_callq (made_ct h2 c1 v1 y1 5 4 z1 (by omega) (by omega) (by omega) (by omega)) rfl rfl rfl rfl fun v h3 s3 hv => ?_
  obtain ⟨b, hB, hM⟩ := hv
  have hk := hM.ok (by omega) (by omega)
  have hk5 := hk.h5
  have hn1 := hk.n1
  have hn8 := hk.n8
  obtain ⟨tv, hv, rfl, ⟨tl, tad, tcp, rfl, tq⟩, ⟨rv, ⟨hl0, had, hcp, rfl, hq⟩, hr⟩⟩ := id hB
  clear tl tq hl0 hq hr
  refine en_alloc rfl fun b9 => ?_
  refine en_det0 (opT_storeW rfl rfl rfl rfl (by simp [Value.oneCell'])) <| en_nil <| en_then <| en_seq <| en_region <| en_det (opT_move rfl) rfl <| ?_
  refine en_callq (piled_ct h3 c1 v1 y1 10 (z1.mono s3) (by omega) (by omega)) rfl rfl rfl rfl fun v h4 s4 hv => ?_
  obtain ⟨left, rfl, hleft⟩ := hv
  have hl : piecesD left = true := piecesD_iff.2 fun m hm => by have := hleft m hm; omega
  have hz := kept_ok hk hl
  have B4 := hB.mono s4
  have hc0 : checkD b = 0 := check_ok.2 hk
  have hnb := mostA_bound hk
  refine en_alloc rfl fun b10 => ?_
  refine en_det0 (opT_storeW rfl rfl rfl rfl (one_trayL _)) <| en_nil <| en_then <| en_seq <| en_region <| ?_
  first | refine en_det (opT_loadW_own rfl rfl) rfl ?_ | refine en_det (opT_loadA_own rfl) rfl ?_
  refine en_call (most21_ct h4 _ _ b B4) rfl rfl rfl rfl fun v h5 Γ' s5 hv => ?_
  obtain ⟨rfl, ⟨_, lv, rfl, _⟩ | ⟨hne, _⟩⟩ := hv
  case inr => exact absurd hc0 hne
  refine en_norm ?_
  have B5 := B4.mono s5
  have cC := clean16_ct h5 _ _ b left B5
  rw [hz, if_pos rfl] at cC
  refine en_det (opT_move rfl) rfl <| en_det (opT_extract rfl rfl) rfl <| en_det (opT_extract rfl rfl) rfl <| en_det (opT_extract rfl rfl) rfl <| en_det (opT_assign rfl) rfl <| en_det (opT_assign rfl) rfl <| en_det (opT_assign rfl) rfl <| en_nil <| en_then <| en_seq <| en_region <| ?_
  first | refine en_det (opT_loadW_own rfl rfl) rfl ?_ | refine en_det (opT_loadA_own rfl) rfl ?_
  refine en_det (opT_loadW_own rfl (row_length _ _)) rfl <| ?_
  refine en_call cC rfl rfl rfl rfl fun v h6 Γ' s6 hv => ?_
  obtain ⟨rfl, rfl⟩ := hv
  refine en_norm ?_
  have B6 := B5.mono s6
  have z6 := z2.mono (s3.trans (s4.trans (s5.trans s6)))
  clear B4 B5 cC
  refine en_det (opT_move rfl) rfl <| en_det (opT_extract rfl rfl) rfl <| en_det (opT_extract rfl rfl) rfl <| en_det (opT_assign rfl) rfl <| en_det (opT_assign rfl) rfl <| en_nil <| en_then <| en_seq <| en_seq <| en_region <| en_det (opT_move rfl) rfl <| en_det (opT_neq_f rfl rfl (by omega)) rfl <| en_det (opT_move rfl) rfl <| en_g_yes rfl rfl <| en_det (opT_move rfl) rfl <| en_g_yes rfl rfl <| en_det (opT_neq_f rfl rfl (by omega)) rfl <| ?_
  first | refine en_det (opT_pick_t rfl rfl) rfl ?_ | refine en_det (opT_pick_f rfl rfl) rfl ?_
  refine en_nil <| en_then <| en_cond_f rfl <| en_skip <| en_then <| en_seq <| en_region <| ?_
  first | refine en_det (opT_loadW_own rfl rfl) rfl ?_ | refine en_det (opT_loadA_own rfl) rfl ?_
  refine en_call (clone_ct h6 _ b B6 hk.small) rfl rfl rfl rfl fun v h7 Γ' s7 hv => ?_
  obtain ⟨fad, ftc, fha, fhc, frv, rfl, hfr, rfl⟩ := hv
  refine en_norm ?_
  refine en_keep [own 31 5 (.slice fad b.nt ftc) b.nt (rows b.nt 5 (icell b.tray)), own 41 9 (.slice fha b.nh fhc) b.nh (rows b.nh 9 fun i => hcell (b.hand i) (frv i)), box b10 31 (trayL left), box b9 26 [.slice tad b.nt tcp, .slice had b.nh hcp], Chute c2 v2 y2.length] ?_
  refine en_alloc rfl fun b16 => ?_
  refine en_det0 (opT_storeW rfl rfl rfl rfl (by simp [Value.oneCell'])) <| en_nil <| en_then <| en_seq <| en_region <| en_det (opT_assign rfl) rfl <| en_nil <| en_then <| en_seq <| en_seq <| en_region <| en_det (opT_fieldAddr rfl) rfl <| en_det (opT_load_own rfl rfl) rfl <| en_det (opT_len rfl) rfl <| en_det (opT_move rfl) rfl <| en_nil <| en_then <| en_block <| ?_
  refine en_pick (own 31 5 (.slice fad b.nt ftc) b.nt (rows b.nt 5 (icell b.tray))) ?_
  refine en_own_shape fun _ _ e17 hfc1 hfc2 _ => ?_
  cases e17
  refine en_own_box (by omega) fun fb tail efad htl hrl => ?_
  subst efad
  have htab : rows b.nt 5 (icell b.tray) = rows b.nt 5 (icell (addTr b fun _ _ => 0)) := by
    refine rows_congr fun i j _ _ => ?_
    simp [icell, addTr]
  rw [htab]
  rw [List.length_append, rows_length] at htl
  clear htab hrl
  refine en_loop (fun x : Nat × (Nat → Nat → Int) × Int × Heap => x.1 ≤ b.nt ∧ h7.sub x.2.2.2 ∧ AInv b.nt x.1 0 x.2.1 x.2.2.1 ∧ 0 ≤ x.2.2.1 ∧ x.2.2.1 ≤ 15 * x.1) (fun x => [(2, .int .u8 w), (8, pt c2), (9, pt b9), (10, pt b10), (12, .int .i64 (mostA b)), (14, .bool (cleanB b (keptD left) (allH b))), (16, pt b16), (17, .int .i64 x.2.2.1), (67, .int .i64 b.nt), (68, .int .i64 x.1)]) (fun x => x.2.2.2) (fun x => [box fb 31 (rows b.nt 5 (icell (addTr b x.2.1)) ++ tail), box b16 26 [.slice (some ⟨fb, 0, none⟩) b.nt ftc, .slice fha b.nh fhc], own 41 9 (.slice fha b.nh fhc) b.nh (rows b.nh 9 fun i => hcell (b.hand i) (frv i)), box b10 31 (trayL left), box b9 26 [.slice tad b.nt tcp, .slice had b.nh hcp], Chute c2 v2 y2.length]) (fun x => b.nt - x.1) (0, (fun _ _ => 0), 0, h7) ⟨by simp, .refl _, AInv.start _, by simp, by simp⟩ ⟨rfl, rfl, rfl, rfl, rfl, rfl, rfl, rfl, rfl, rfl, trivial⟩ (.refl _) (tkAll _) fun x hx => ?_
  obtain ⟨t, a, ad, h8⟩ := x
  obtain ⟨ht, s8, hA, had0, had1⟩ := hx
  simp only at ht s8 hA had0 had1
  change En _ _ _ [(2, .int .u8 w), (8, pt c2), (9, pt b9), (10, pt b10), (12, .int .i64 (mostA b)), (14, .bool (cleanB b (keptD left) (allH b))), (16, pt b16), (17, .int .i64 ad), (67, .int .i64 b.nt), (68, .int .i64 t)] h8 [box fb 31 (rows b.nt 5 (icell (addTr b a)) ++ tail), box b16 26 [.slice (some ⟨fb, 0, none⟩) b.nt ftc, .slice fha b.nh fhc], own 41 9 (.slice fha b.nh fhc) b.nh (rows b.nh 9 fun i => hcell (b.hand i) (frv i)), box b10 31 (trayL left), box b9 26 [.slice tad b.nt tcp, .slice had b.nh hcp], Chute c2 v2 y2.length]
  refine en_seq <| en_region <| ?_
  first | refine en_det (opT_lss_t rfl rfl (by omega)) rfl ?_ | refine en_det (opT_lss_f rfl rfl (by omega)) rfl ?_ | refine en_det (opT_lss rfl rfl) rfl ?_
  refine en_nil <| en_then <| en_seq <| ?_
  refine en_if rfl (fun hlt1 => ?_) (fun hlt1 => ?_)
  · skip
    have htn : t < b.nt := by omega
    refine en_skip <| en_then <| en_seq <| en_block <| en_seq <| en_region <| en_det (opT_move rfl) rfl <| en_det (opT_assign rfl) rfl <| en_nil <| en_then <| en_seq <| en_region <| en_det (opT_move rfl) rfl <| en_nil <| en_then <| en_block <| ?_
    refine en_loop (fun x : Nat × (Nat → Nat → Int) × Int × Heap => x.1 ≤ 5 ∧ h8.sub x.2.2.2 ∧ AInv b.nt t x.1 x.2.1 x.2.2.1 ∧ 0 ≤ x.2.2.1 ∧ x.2.2.1 ≤ 15 * t + 3 * x.1) (fun x => [(2, .int .u8 w), (8, pt c2), (9, pt b9), (10, pt b10), (12, .int .i64 (mostA b)), (14, .bool (cleanB b (keptD left) (allH b))), (16, pt b16), (17, .int .i64 x.2.2.1), (67, .int .i64 b.nt), (68, .int .i64 t), (18, .int .i64 t), (71, .int .i64 x.1)]) (fun x => x.2.2.2) (fun x => [box fb 31 (rows b.nt 5 (icell (addTr b x.2.1)) ++ tail), box b16 26 [.slice (some ⟨fb, 0, none⟩) b.nt ftc, .slice fha b.nh fhc], own 41 9 (.slice fha b.nh fhc) b.nh (rows b.nh 9 fun i => hcell (b.hand i) (frv i)), box b10 31 (trayL left), box b9 26 [.slice tad b.nt tcp, .slice had b.nh hcp], Chute c2 v2 y2.length]) (fun x => 5 - x.1) (0, a, ad, h8) ⟨by simp, .refl _, hA, had0, by simp only; omega⟩ ⟨rfl, rfl, rfl, rfl, rfl, rfl, rfl, rfl, rfl, rfl, rfl, rfl, trivial⟩ (.refl _) (tkAll _) fun x hx => ?_
    obtain ⟨m, a, ad, h9⟩ := x
    obtain ⟨hm, s9, hA, had0, had1⟩ := hx
    simp only at hm s9 hA had0 had1
    change En _ _ _ [(2, .int .u8 w), (8, pt c2), (9, pt b9), (10, pt b10), (12, .int .i64 (mostA b)), (14, .bool (cleanB b (keptD left) (allH b))), (16, pt b16), (17, .int .i64 ad), (67, .int .i64 b.nt), (68, .int .i64 t), (18, .int .i64 t), (71, .int .i64 m)] h9 [box fb 31 (rows b.nt 5 (icell (addTr b a)) ++ tail), box b16 26 [.slice (some ⟨fb, 0, none⟩) b.nt ftc, .slice fha b.nh fhc], own 41 9 (.slice fha b.nh fhc) b.nh (rows b.nh 9 fun i => hcell (b.hand i) (frv i)), box b10 31 (trayL left), box b9 26 [.slice tad b.nt tcp, .slice had b.nh hcp], Chute c2 v2 y2.length]
    refine en_seq <| en_region <| ?_
    first | refine en_det (opT_lss_t rfl rfl (by omega)) rfl ?_ | refine en_det (opT_lss_f rfl rfl (by omega)) rfl ?_ | refine en_det (opT_lss rfl rfl) rfl ?_
    refine en_nil <| en_then <| en_seq <| ?_
    refine en_if rfl (fun hlt2 => ?_) (fun hlt2 => ?_)
    · skip
      have hm5 : m < 5 := by omega
      refine en_skip <| en_then <| en_seq <| en_block <| en_seq <| en_region <| en_det (opT_move rfl) rfl <| en_det (opT_assign rfl) rfl <| en_nil <| en_then <| en_seq <| en_region <| en_det (opT_move rfl) rfl <| ?_
      refine en_callq (pull_ct h9 c2 v2 y2 4 (z6.mono (s7.trans (s8.trans s9))) (by omega)) rfl rfl rfl rfl fun v h10 s10 hv => ?_
      obtain ⟨k, rfl, hk0, _, hk2⟩ := hv
      replace hk2 := hk2 (by omega)
      have hcell : (rows b.nt 5 (icell (addTr b a)) ++ tail)[t * 5 + m]? = some (.int .i64 (addTr b a t m)) := app_get (rows_get htn hm5)
      have hz0 := hA.z t m (.inr ⟨rfl, Nat.le_refl _⟩)
      have htr := hM.tr t m htn hm5
      have hval : 0 ≤ addTr b a t m ∧ addTr b a t m ≤ 14 := by unfold addTr; omega
      have hoff := row_lt htn hm5
      have hset := addTr_set b a t m k hz0
      generalize hX : addTr b a t m = X at hcell hval hset
      refine en_det (opT_assign rfl) rfl <| en_nil <| en_then <| en_seq <| en_draw0 [0, 1, 2, 3, 4, 5, 6, 7, 8, 9, 10, 11] (by kernel_rfl) (by decide +kernel) (by decide +kernel) (by decide) <| dp_p rfl (fun _ _ => opT_fieldAddr rfl) rfl rfl rfl <| dp_q rfl (opT_load_own rfl rfl) rfl rfl rfl <| dp_p rfl (fun _ _ => opT_move rfl) rfl rfl rfl <| dp_p rfl (fun _ _ => opT_move rfl) rfl rfl rfl <| ?_
      first | refine dp_p rfl (fun _ _ => opT_idx1 rfl rfl (by omega) (by omega)) rfl rfl rfl ?_ | refine dp_p rfl (fun _ _ => opT_idx (ks := 0) rfl rfl (by omega) (by omega)) rfl rfl rfl ?_
      refine dp_p rfl (fun _ _ => opT_idxArr rfl rfl (by omega) (by omega)) rfl rfl rfl <| dp_q rfl (opT_load_own (v := .int .i64 X) rfl hcell) rfl rfl rfl <| dp_p rfl (fun _ _ => opT_move rfl) rfl rfl rfl <| dp_p rfl (fun _ _ => opT_add rfl rfl (by constructor <;> omega)) rfl rfl rfl <| ?_
      first | refine dp_p rfl (fun _ _ => opT_idx1 rfl rfl (by omega) (by omega)) rfl rfl rfl ?_ | refine dp_p rfl (fun _ _ => opT_idx (ks := 0) rfl rfl (by omega) (by omega)) rfl rfl rfl ?_
      refine dp_p rfl (fun _ _ => opT_idxArr rfl rfl (by omega) (by omega)) rfl rfl rfl <| dp_td0 rfl (opT_store1s rfl rfl rfl (by rw [List.length_append, rows_length]; omega)) rfl rfl rfl rfl rfl <| dp_done0 <| en_then <| en_region <| en_det (opT_move rfl) rfl <| en_det (opT_move rfl) rfl <| en_det (opT_add rfl rfl (by constructor <;> omega)) rfl <| en_det (opT_assign rfl) rfl <| en_nil <| en_blk <| en_then <| en_region <| en_det (opT_add rfl rfl (by constructor <;> omega)) rfl <| en_det (opT_move rfl) rfl <| en_nil <| en_then <| ?_
      rw [rows_app_set htn hm5, hset]
      exact en_again (m + 1, upd2 a t m k, ad + k, h10) ⟨by simp only; omega, s9.trans s10, hA.add htn hm5 hk0 (by omega), by simp only; omega, by simp only; omega⟩ (by simp only; omega) ⟨rfl, rfl, rfl, rfl, rfl, rfl, rfl, rfl, rfl, rfl, rfl, gi rfl (by simp), trivial⟩ (.refl _) inferInstance
    · skip
      refine en_exit <| en_then_exit <| en_then_exit <| en_blk_hit <| en_blk <| en_then <| en_region <| en_det (opT_add rfl rfl (by constructor <;> omega)) rfl <| en_det (opT_move rfl) rfl <| en_nil <| en_then <| ?_
      exact en_again (t + 1, a, ad, h9) ⟨by simp only; omega, s8.trans s9, hA.next (by omega), by simp only; omega, by simp only; omega⟩ (by simp only; omega) ⟨rfl, rfl, rfl, rfl, rfl, rfl, rfl, rfl, rfl, gi rfl (by simp), trivial⟩ (.refl _) inferInstance
  · skip
    obtain rfl : t = b.nt := by omega
    have hko := addT_ok hM (by omega) (by omega) hA.r
    have hmm := most_more hk hko fun i j _ _ => (hA.r i j).1
    rw [← hA.s] at hmm
    have hnf := mostA_bound hko
    refine en_box_own hfc1 hfc2 (by rw [List.length_append, rows_length]; exact htl) (rows_length _ _ _) ?_
    refine en_freeze_own fun h9 s9 hsl _ => ?_
    refine en_pick (own 41 9 (.slice fha b.nh fhc) b.nh (rows b.nh 9 fun i => hcell (b.hand i) (frv i))) ?_
    refine en_freeze_own fun h10 s10 hsh _ => ?_
    have hBf : IsBelt h10 (.agg #[.slice (some ⟨fb, 0, none⟩) b.nt ftc, .slice fha b.nh fhc]) (addT b a) := ⟨_, _, rfl, SlH.mono s10 hsl, frv, hsh, fun i hi => (hfr i hi).mono (s8.trans (s9.trans s10))⟩
    have hcf : checkD (addT b a) = 0 := check_ok.2 hko
    refine en_exit <| en_then_exit <| en_then_exit <| en_blk_hit <| en_then <| en_seq <| en_seq <| en_region <| ?_
    first | refine en_det (opT_loadW_own rfl rfl) rfl ?_ | refine en_det (opT_loadA_own rfl) rfl ?_
    refine en_call (most21_ct h10 _ _ (addT b a) hBf) rfl rfl rfl rfl fun v h11 Γ' s11 hv => ?_
    obtain ⟨rfl, ⟨_, lv', rfl, _⟩ | ⟨hne, _⟩⟩ := hv
    case inr => exact absurd hcf hne
    refine en_norm ?_
    refine en_keep [box b10 31 (trayL left), box b9 26 [.slice tad b.nt tcp, .slice had b.nh hcp], Chute c2 v2 y2.length] ?_
    have s711 := s7.trans (s8.trans (s9.trans (s10.trans s11)))
    have B11 := B6.mono s711
    have z11 := z6.mono s711
    refine en_det (opT_move rfl) rfl <| en_det (opT_extract rfl rfl) rfl <| en_det (opT_extract rfl rfl) rfl <| en_det (opT_extract rfl rfl) rfl <| en_det (opT_assign rfl) rfl <| en_det (opT_assign rfl) rfl <| en_det (opT_assign rfl) rfl <| en_nil <| en_then <| en_seq <| en_region <| en_det (opT_move rfl) rfl <| en_det (opT_neq_f rfl rfl (by omega)) rfl <| en_det (opT_move rfl) rfl <| en_g_yes rfl rfl <| en_det (opT_move rfl) rfl <| en_g_yes rfl rfl <| en_det (opT_move rfl) rfl <| en_g_yes rfl rfl <| en_det (opT_lss_f rfl rfl (by omega)) rfl <| ?_
    first | refine en_det (opT_pick_t rfl rfl) rfl ?_ | refine en_det (opT_pick_f rfl rfl) rfl ?_
    refine en_det (opT_move rfl) rfl <| en_g_yes rfl rfl <| en_det (opT_move rfl) rfl <| en_g_yes rfl rfl <| en_det (opT_move rfl) rfl <| en_g_yes rfl rfl <| en_det (opT_move rfl) rfl <| en_g_yes rfl rfl <| en_det (opT_add rfl rfl (by constructor <;> omega)) rfl <| en_g_yes rfl rfl <| en_det (opT_gtr_f rfl rfl (by omega)) rfl <| ?_
    first | refine en_det (opT_pick_t rfl rfl) rfl ?_ | refine en_det (opT_pick_f rfl rfl) rfl ?_
    refine en_nil <| en_then <| en_cond_f rfl <| en_skip <| en_then <| en_seq <| en_region <| ?_
    first | refine en_det (opT_loadW_own rfl rfl) rfl ?_ | refine en_det (opT_loadA_own rfl) rfl ?_
    refine en_call (clone_ct h11 _ b B11 hk.small) rfl rfl rfl rfl fun v h12 Γ' s12 hv => ?_
    obtain ⟨gad, gtc, gha, ghc, grv, rfl, hgr, rfl⟩ := hv
    refine en_norm ?_
    have z12 := z11.mono s12
    refine en_alloc rfl fun b24 => ?_
    refine en_det0 (opT_storeW rfl rfl rfl rfl (by simp [Value.oneCell'])) <| ?_
    refine en_nil <| en_then <| en_seq <| en_draw0 [0, 1, 2, 4, 7, 3, 5, 6, 8, 9, 10, 11, 12, 13] (by kernel_rfl) (by decide +kernel) (by decide +kernel) (by decide) <| dp_p rfl (fun _ _ => opT_fieldAddr rfl) rfl rfl rfl <| dp_q rfl (opT_load_own (v := .slice gha b.nh ghc) rfl rfl) rfl rfl rfl <| dp_p rfl (fun _ _ => opT_move rfl) rfl rfl rfl <| dp_p rfl (fun _ _ => opT_move rfl) rfl rfl rfl <| dp_p rfl (fun _ _ => opT_move rfl) rfl rfl rfl <| ?_
    refine dp_callq (in18_ct h12 c2 v2 y2 2 z12 (by omega)) rfl rfl rfl rfl rfl rfl rfl fun v h13 s13 hv => ?_; obtain ⟨q1, rfl⟩ := hv
    refine dp_callq (in18_ct h13 c2 v2 y2 2 (z12.mono s13) (by omega)) rfl rfl rfl rfl rfl rfl rfl fun v h14 s14 hv => ?_; obtain ⟨q2, rfl⟩ := hv
    refine dp_p rfl (fun _ _ => opT_build (cs := [.bool true, .bool q1, .bool q2, .bool false, .bool false]) rfl (by kernel_rfl)) rfl rfl rfl <| ?_
    refine dp_callq (pull_ct h14 c2 v2 y2 20 (z12.mono (s13.trans s14)) (by omega)) rfl rfl rfl rfl rfl rfl rfl fun v h15 s15 hv => ?_; obtain ⟨q3, rfl, hq0, _, hq2⟩ := hv
    refine dp_p rfl (fun _ _ => opT_build (cs := handL ⟨tk3 q1 q2, q3, 0, 0, []⟩ nilS) rfl (by kernel_rfl)) rfl rfl rfl <| ?_
    refine dp_box rfl (opT_buildSlice (cs := handL ⟨tk3 q1 q2, q3, 0, 0, []⟩ nilS) rfl rfl (by kernel_rfl)) rfl rfl rfl rfl fun b124 => ?_
    refine dp_tn rfl (opT_shape (opT_app1 rfl rfl rfl rfl rfl rfl (by omega))) rfl rfl rfl rfl rfl fun v125 _ _ _ hv125 => ?_; obtain ⟨ad125, cp125, rfl, hm125, hc125, e1, rfl⟩ := hv125; replace e1 := e1.symm; subst e1
    refine dp_p rfl (fun _ _ => opT_fieldAddr rfl) rfl rfl rfl <| dp_td0 rfl (opT_store1 rfl rfl rfl) rfl rfl rfl rfl rfl <| dp_done0 <| ?_
    replace hq2 := hq2 (by omega)
    have hx : OKX b.nt ⟨tk3 q1 q2, q3, 0, 0, []⟩ := ⟨⟨hq0, by simp only; omega, by simp, by simp⟩, by simp, fun j hj => by simp at hj, rfl⟩
    have hbt := far_better left hk (by have := hM.nH; omega) hx
    rw [hands_snoc]
    refine en_freeze_own fun h16 s16 hgh _ => ?_
    refine en_pick (own 31 5 (.slice gad b.nt gtc) b.nt (rows b.nt 5 (icell b.tray))) ?_
    refine en_freeze_own fun h17 s17 hgt _ => ?_
    have hBg : IsBelt h17 (.agg #[.slice gad b.nt gtc, .slice ad125 (b.nh + 1) cp125]) (farB b ⟨tk3 q1 q2, q3, 0, 0, []⟩) := ⟨_, _, rfl, hgt, _, SlH.mono s17 hgh, fun i hi => by
      show IsInts h17 (if i = b.nh then nilS else grv i) (if i = b.nh then (⟨tk3 q1 q2, q3, 0, 0, []⟩ : HandD) else b.hand i).rests
      split
      · exact SlH.nil _ _
      · exact (hgr i (by have : i < b.nh + 1 := hi; omega)).mono (s13.trans (s14.trans (s15.trans (s16.trans s17))))⟩
    have s1217 := s12.trans (s13.trans (s14.trans (s15.trans (s16.trans s17))))
    have B17 := B11.mono s1217
    have z17 := z11.mono s1217
    refine en_then <| en_seq <| en_region <| ?_
    first | refine en_det (opT_loadW_own rfl rfl) rfl ?_ | refine en_det (opT_loadA_own rfl) rfl ?_
    refine en_op (opT_buildSlice (cs := [.slice gad b.nt gtc, .slice ad125 (b.nh + 1) cp125]) rfl rfl (by kernel_rfl)) rfl fun _ _ _ _ ⟨b128, e1, e2, e3⟩ => ?_
    subst e1 e3; replace e2 := e2.symm; subst e2
    refine en_det (opT_assign rfl) rfl <| en_nil <| en_then <| ?_
    refine en_keep [box b128 26 [.slice gad b.nt gtc, .slice ad125 (b.nh + 1) cp125], box b10 31 (trayL left), box b9 26 [.slice tad b.nt tcp, .slice had b.nh hcp], Chute c2 v2 y2.length] ?_
    refine en_to_own 2 1 1 (by omega) (by omega) rfl ?_
    rw [show (List.take (1 * 2) [Value.slice gad b.nt gtc, .slice ad125 (b.nh + 1) cp125]) = rows 1 2 (btab (fun _ => .slice gad b.nt gtc) (fun _ => .slice ad125 (b.nh + 1) cp125)) from rfl]
    have hP17 : BeltsP b left h17 1 (fun _ => .slice gad b.nt gtc) (fun _ => .slice ad125 (b.nh + 1) cp125) := fun i hi => ⟨_, hBg, hbt⟩
    clear hgt hgh hBg
    refine en_meet (ι := Nat × (Nat → Value) × (Nat → Value) × Option Addr × Nat × Heap) (fun x => x.1 ≤ 4 ∧ h17.sub x.2.2.2.2.2 ∧ BeltsP b left x.2.2.2.2.2 x.1 x.2.1 x.2.2.1) (fun x => [(10, pt b10), (12, .int .i64 (mostA b)), (14, .bool (cleanB b (keptD left) (allH b))), (25, .slice x.2.2.2.1 x.1 x.2.2.2.2.1)]) (fun x => x.2.2.2.2.2) (fun x => [own 26 2 (.slice x.2.2.2.1 x.1 x.2.2.2.2.1) x.1 (rows x.1 2 (btab x.2.1 x.2.2.1)), box b10 31 (trayL left), box b9 26 [.slice tad b.nt tcp, .slice had b.nh hcp], Chute c2 v2 y2.length]) ?_ (fun x hx => ?_)
    · skip
      skip
      by_cases hnh : 0 < b.nh
      · have hr0 : 0 ≤ w % (b.nh : Int) := Int.emod_nonneg _ (by omega)
        have hr1 : w % (b.nh : Int) < b.nh := Int.emod_lt_of_pos _ (by omega)
        obtain ⟨i0, hi0⟩ := Int.eq_ofNat_of_zero_le hr0
        rw [hi0] at hr1
        have hin : i0 < b.nh := by omega
        have hXk := hk.okx hin
        have hMh := hM.hands i0 hin
        refine en_seq <| en_region <| en_det (opT_fieldAddr rfl) rfl <| en_det (opT_load_own rfl rfl) rfl <| en_det (opT_len rfl) rfl <| en_det (opT_gtr_t rfl rfl (by omega)) rfl <| en_nil <| en_then <| en_cond_t rfl <| en_seq <| en_region <| en_det (opT_move rfl) rfl <| en_det (opT_conv rfl (wrap_i64 (by constructor <;> omega))) rfl <| en_det (opT_fieldAddr rfl) rfl <| en_det (opT_load_own rfl rfl) rfl <| en_det (opT_len rfl) rfl <| en_det ((hi0 ▸ opT_remk rfl rfl (by omega) (by omega))) rfl <| en_det (opT_assign rfl) rfl <| en_nil <| en_then <| en_seq <| en_region <| en_det (opT_move rfl) rfl <| en_nil <| en_then <| en_block <| ?_
        refine en_loop (fun x : Nat × (Nat → Value) × (Nat → Value) × Option Addr × Nat × Heap => 1 ≤ x.1 ∧ x.1 ≤ 4 ∧ h17.sub x.2.2.2.2.2 ∧ BeltsP b left x.2.2.2.2.2 x.1 x.2.1 x.2.2.1) (fun x => [(8, pt c2), (9, pt b9), (26, .int .i64 i0), (10, pt b10), (12, .int .i64 (mostA b)), (14, .bool (cleanB b (keptD left) (allH b))), (25, .slice x.2.2.2.1 x.1 x.2.2.2.2.1), (139, .int .i64 (x.1 - 1))]) (fun x => x.2.2.2.2.2) (fun x => [own 26 2 (.slice x.2.2.2.1 x.1 x.2.2.2.2.1) x.1 (rows x.1 2 (btab x.2.1 x.2.2.1)), box b10 31 (trayL left), box b9 26 [.slice tad b.nt tcp, .slice had b.nh hcp], Chute c2 v2 y2.length]) (fun x => 4 - x.1) (1, (fun _ => .slice gad b.nt gtc), (fun _ => .slice ad125 (b.nh + 1) cp125), some ⟨b128, 0, none⟩, 1, h17) ⟨by simp, by simp, .refl _, hP17⟩ ⟨rfl, rfl, rfl, rfl, rfl, rfl, rfl, rfl, trivial⟩ (.refl _) (tkAll _) fun x hx => ?_
        obtain ⟨k, tvs, hvs, ad, cp, h18⟩ := x
        obtain ⟨hk1, hk4, s18, hP⟩ := hx
        simp only at hk1 hk4 s18 hP
        change En _ _ _ [(8, pt c2), (9, pt b9), (26, .int .i64 i0), (10, pt b10), (12, .int .i64 (mostA b)), (14, .bool (cleanB b (keptD left) (allH b))), (25, .slice ad k cp), (139, .int .i64 (k - 1))] h18 [own 26 2 (.slice ad k cp) k (rows k 2 (btab tvs hvs)), box b10 31 (trayL left), box b9 26 [.slice tad b.nt tcp, .slice had b.nh hcp], Chute c2 v2 y2.length]
        refine en_seq <| en_region <| ?_
        first | refine en_det (opT_lss_t rfl rfl (by omega)) rfl ?_ | refine en_det (opT_lss_f rfl rfl (by omega)) rfl ?_ | refine en_det (opT_lss rfl rfl) rfl ?_
        refine en_nil <| en_then <| en_seq <| ?_
        refine en_if rfl (fun hlt3 => ?_) (fun hlt3 => ?_)
        · skip
          have hk3 : k < 4 := by omega
          refine en_skip <| en_then <| en_seq <| en_block <| en_seq <| en_region <| en_det (opT_move rfl) rfl <| en_det (opT_assign rfl) rfl <| en_nil <| en_then <| en_seq <| en_region <| ?_
          first | refine en_det (opT_loadW_own rfl rfl) rfl ?_ | refine en_det (opT_loadA_own rfl) rfl ?_
          refine en_call (clone_ct h18 _ b (B17.mono s18) hk.small) rfl rfl rfl rfl fun v h19 Γ' s19 hv => ?_
          obtain ⟨oad, otc, oha, ohc, orv, rfl, hor, rfl⟩ := hv
          refine en_norm ?_
          have z19 := z17.mono (s18.trans s19)
          refine en_alloc rfl fun b28 => ?_
          refine en_det0 (opT_storeW rfl rfl rfl rfl (by simp [Value.oneCell'])) <| ?_
          refine en_pick (own 41 9 (.slice oha b.nh ohc) b.nh (rows b.nh 9 fun i => hcell (b.hand i) (orv i))) ?_
          refine en_own_shape fun _ _ e17 hoc1 hoc2 _ => ?_
          cases e17
          refine en_own_box (by omega) fun ob otail eoad hotl _ => ?_
          subst eoad
          rw [List.length_append, rows_length] at hotl
          have hg5 : (rows b.nh 9 (fun i => hcell (b.hand i) (orv i)) ++ otail)[i0 * 9 + 5]? = some (.int .i64 (b.hand i0).str) := app_get (rows_get hin (by omega))
          have hg6 : (rows b.nh 9 (fun i => hcell (b.hand i) (orv i)) ++ otail)[i0 * 9 + 6]? = some (.int .i64 (b.hand i0).tire) := app_get (rows_get hin (by omega))
          have hlen : ∀ c, c < 9 → i0 * 9 + c < (rows b.nh 9 (fun i => hcell (b.hand i) (orv i)) ++ otail).length := fun c hc => by
            have := row_lt hin hc
            rw [List.length_append, rows_length]; omega
          have hl0 := hlen 0 (by omega)
          have hl5 := hlen 5 (by omega)
          have hl6 := hlen 6 (by omega)
          have hms := hMh.str
          have hmt := hMh.tire
          skip
          have hk123 : k = 1 ∨ k = 2 ∨ k = 3 := by omega
          rcases hk123 with hke | hke | hke
          · refine en_nil <| en_then <| en_seq <| en_region <| en_det (opT_fieldAddr rfl) rfl <| en_det (opT_load_own rfl rfl) rfl <| en_det (opT_move rfl) rfl <| ?_
            first | refine en_det (opT_idx1 rfl rfl (by omega) (by omega)) rfl ?_ | refine en_det (opT_idx (ks := 0) rfl rfl (by omega) (by omega)) rfl ?_
            refine en_det (opT_assign rfl) rfl <| en_nil <| en_then <| en_seq <| en_seq <| en_region <| en_det (opT_move rfl) rfl <| en_nil <| en_then <| en_block <| en_seq <| en_region <| en_det (opT_eql_t rfl rfl (by omega)) rfl <| en_det (opT_assign rfl) rfl <| en_nil <| en_then <| en_cond_t rfl <| en_draw0 [0, 1, 2, 3, 4, 5, 6, 7, 8, 9, 10, 11] (by kernel_rfl) (by decide +kernel) (by decide +kernel) (by decide) <| dp_p rfl (fun _ _ => opT_move rfl) rfl rfl rfl <| dp_p rfl (fun _ _ => opT_move rfl) rfl rfl rfl <| dp_p rfl (fun _ _ => opT_nilCheck_p rfl) rfl rfl rfl <| dp_p rfl (fun _ _ => opT_fieldAddr rfl) rfl rfl rfl <| dp_q rfl (opT_load_own (v := .int .i64 (b.hand i0).str) rfl hg5) rfl rfl rfl <| dp_p rfl (fun _ _ => opT_move rfl) rfl rfl rfl <| ?_
            refine dp_callq (pull_ct h19 c2 v2 y2 9 z19 (by omega)) rfl rfl rfl rfl rfl rfl rfl fun v h20 s20 hv => ?_; obtain ⟨r, rfl, hr0', _, hr2'⟩ := hv; replace hr2' := hr2' (by omega)
            refine dp_p rfl (fun _ _ => opT_add rfl rfl (by constructor <;> omega)) rfl rfl rfl <| dp_p rfl (fun _ _ => opT_min2 rfl rfl) rfl rfl rfl <| dp_p rfl (fun _ _ => opT_nilCheck_p rfl) rfl rfl rfl <| dp_p rfl (fun _ _ => opT_fieldAddr rfl) rfl rfl rfl <| dp_td0 rfl (opT_store1s rfl rfl rfl (by omega)) rfl rfl rfl rfl rfl <| dp_done0 <| ?_
            rw [rows_app_set hin (by omega), hands_set _ _ i0 5 _ { b.hand i0 with str := min 40 ((b.hand i0).str + r) } (hcell_str _ _ _)]
            have hbo : Better b (setB b i0 { b.hand i0 with str := min 40 ((b.hand i0).str + r) }) left := set_better left hk ⟨⟨by simp only; omega, by simp only; omega, hXk.ok.t0, hXk.ok.t1⟩, hXk.sl, hXk.re, hXk.ri⟩ rfl (by simp only; omega) (Int.le_refl _) fun _ _ h => h
            refine en_pick (box ob 41 (rows b.nh 9 (fun a => hcell ((fun i => if i = i0 then { b.hand i0 with str := min 40 ((b.hand i0).str + r) } else b.hand i) a) (orv a)) ++ otail)) ?_
            refine en_box_own hoc1 hoc2 (by rw [List.length_append, rows_length]; exact hotl) (rows_length _ _ _) ?_
            refine en_freeze_own fun h21 s21 hsh _ => ?_
            refine en_pick (own 31 5 (.slice oad b.nt otc) b.nt (rows b.nt 5 (icell b.tray))) ?_
            refine en_freeze_own fun h22 s22 hst _ => ?_
            have hBo : IsBelt h22 (.agg #[.slice oad b.nt otc, .slice (some ⟨ob, 0, none⟩) b.nh ohc]) (setB b i0 { b.hand i0 with str := min 40 ((b.hand i0).str + r) }) := ⟨_, _, rfl, hst, orv, SlH.mono s22 hsh, fun i hi => by
              have h0 := (hor i hi).mono (s20.trans (s21.trans s22))
              show IsInts h22 (orv i) (if i = i0 then { b.hand i0 with str := min 40 ((b.hand i0).str + r) } else b.hand i).rests
              split
              · rename_i e; subst e; exact h0
              · exact h0⟩
            have hsx := s19.trans (s20.trans (s21.trans s22))
            refine en_keep [own 26 2 (.slice ad k cp) k (rows k 2 (btab tvs hvs)), box b28 26 [.slice oad b.nt otc, .slice (some ⟨ob, 0, none⟩) b.nh ohc], box b10 31 (trayL left), box b9 26 [.slice tad b.nt tcp, .slice had b.nh hcp], Chute c2 v2 y2.length] ?_
            refine en_blk <| en_then <| en_region <| en_det (opT_move rfl) rfl <| ?_
            first | refine en_det (opT_loadW_own rfl rfl) rfl ?_ | refine en_det (opT_loadA_own rfl) rfl ?_
            refine en_op (opT_buildSlice (cs := [.slice oad b.nt otc, .slice (some ⟨ob, 0, none⟩) b.nh ohc]) rfl rfl (by kernel_rfl)) rfl fun _ _ _ _ ⟨b182, e1, e2, e3⟩ => ?_
            subst e1 e3; replace e2 := e2.symm; subst e2
            refine en_app1 rfl rfl rfl rfl rfl rfl rfl (by omega) fun ad183 cp183 hm183 hc183 => ?_
            refine en_det (opT_assign rfl) rfl <| en_nil <| en_blk <| en_then <| en_region <| en_det (opT_add rfl rfl (by constructor <;> omega)) rfl <| en_det (opT_move rfl) rfl <| en_nil <| en_then <| ?_
            rw [belts_snoc]
            exact en_again (k + 1, (fun i => if i = k then .slice oad b.nt otc else tvs i), (fun i => if i = k then .slice (some ⟨ob, 0, none⟩) b.nh ohc else hvs i), ad183, cp183, h22) ⟨by simp only; omega, by simp only; omega, s18.trans hsx, (hP.mono hsx).snoc hBo hbo⟩ (by simp only; omega) ⟨rfl, rfl, rfl, rfl, rfl, rfl, rfl, gi rfl (by simp only; omega), trivial⟩ (.refl _) inferInstance
          · skip
            refine en_nil <| en_then <| en_seq <| en_region <| en_det (opT_fieldAddr rfl) rfl <| en_det (opT_load_own rfl rfl) rfl <| en_det (opT_move rfl) rfl <| ?_
            first | refine en_det (opT_idx1 rfl rfl (by omega) (by omega)) rfl ?_ | refine en_det (opT_idx (ks := 0) rfl rfl (by omega) (by omega)) rfl ?_
            refine en_det (opT_assign rfl) rfl <| en_nil <| en_then <| en_seq <| en_seq <| en_region <| en_det (opT_move rfl) rfl <| en_nil <| en_then <| en_block <| en_seq <| en_region <| en_det (opT_eql_f rfl rfl (by omega)) rfl <| en_det (opT_assign rfl) rfl <| en_nil <| en_then <| en_cond_f rfl <| en_seq <| en_region <| en_det (opT_eql_t rfl rfl (by omega)) rfl <| en_det (opT_assign rfl) rfl <| en_nil <| en_then <| en_cond_t rfl <| en_region <| en_det (opT_move rfl) rfl <| en_det (opT_move rfl) rfl <| en_det (opT_move rfl) rfl <| en_det (opT_nilCheck_p rfl) rfl <| en_det (opT_fieldAddr rfl) rfl <| en_det (opT_load_own (v := .int .i64 (b.hand i0).tire) rfl hg6) rfl <| en_det (opT_add rfl rfl (by constructor <;> omega)) rfl <| ?_
            refine en_callq (pull_ct h19 c2 v2 y2 ((b.hand i0).tire + 1) z19 (by omega)) rfl rfl rfl rfl fun v h20 s20 hv => ?_
            obtain ⟨r, rfl, hr0', hr1', hr2'⟩ := hv
            have hrt : r ≤ (b.hand i0).tire := by
              by_cases e : (b.hand i0).tire + 1 < 2
              · have := hr1' e; omega
              · have := hr2' (by omega); omega
            refine en_det (opT_nilCheck_p rfl) rfl <| en_det (opT_fieldAddr rfl) rfl <| en_det0 (opT_store1s rfl rfl rfl (by omega)) <| ?_
            rw [rows_app_set hin (by omega), hands_set _ _ i0 6 _ { b.hand i0 with tire := r } (hcell_tire _ _ _)]
            have hbo : Better b (setB b i0 { b.hand i0 with tire := r }) left := set_better left hk ⟨⟨hXk.ok.s0, hXk.ok.s1, hr0', by simp only; omega⟩, hXk.sl, hXk.re, hXk.ri⟩ rfl (Int.le_refl _) hrt fun _ _ h => h
            refine en_pick (box ob 41 (rows b.nh 9 (fun a => hcell ((fun i => if i = i0 then { b.hand i0 with tire := r } else b.hand i) a) (orv a)) ++ otail)) ?_
            refine en_box_own hoc1 hoc2 (by rw [List.length_append, rows_length]; exact hotl) (rows_length _ _ _) ?_
            refine en_freeze_own fun h21 s21 hsh _ => ?_
            refine en_pick (own 31 5 (.slice oad b.nt otc) b.nt (rows b.nt 5 (icell b.tray))) ?_
            refine en_freeze_own fun h22 s22 hst _ => ?_
            have hBo : IsBelt h22 (.agg #[.slice oad b.nt otc, .slice (some ⟨ob, 0, none⟩) b.nh ohc]) (setB b i0 { b.hand i0 with tire := r }) := ⟨_, _, rfl, hst, orv, SlH.mono s22 hsh, fun i hi => by
              have h0 := (hor i hi).mono (s20.trans (s21.trans s22))
              show IsInts h22 (orv i) (if i = i0 then { b.hand i0 with tire := r } else b.hand i).rests
              split
              · rename_i e; subst e; exact h0
              · exact h0⟩
            have hsx := s19.trans (s20.trans (s21.trans s22))
            refine en_keep [own 26 2 (.slice ad k cp) k (rows k 2 (btab tvs hvs)), box b28 26 [.slice oad b.nt otc, .slice (some ⟨ob, 0, none⟩) b.nh ohc], box b10 31 (trayL left), box b9 26 [.slice tad b.nt tcp, .slice had b.nh hcp], Chute c2 v2 y2.length] ?_
            refine en_nil <| en_blk <| en_then <| en_region <| en_det (opT_move rfl) rfl <| ?_
            first | refine en_det (opT_loadW_own rfl rfl) rfl ?_ | refine en_det (opT_loadA_own rfl) rfl ?_
            refine en_op (opT_buildSlice (cs := [.slice oad b.nt otc, .slice (some ⟨ob, 0, none⟩) b.nh ohc]) rfl rfl (by kernel_rfl)) rfl fun _ _ _ _ ⟨b182, e1, e2, e3⟩ => ?_
            subst e1 e3; replace e2 := e2.symm; subst e2
            refine en_app1 rfl rfl rfl rfl rfl rfl rfl (by omega) fun ad183 cp183 hm183 hc183 => ?_
            refine en_det (opT_assign rfl) rfl <| en_nil <| en_blk <| en_then <| en_region <| en_det (opT_add rfl rfl (by constructor <;> omega)) rfl <| en_det (opT_move rfl) rfl <| en_nil <| en_then <| ?_
            rw [belts_snoc]
            exact en_again (k + 1, (fun i => if i = k then .slice oad b.nt otc else tvs i), (fun i => if i = k then .slice (some ⟨ob, 0, none⟩) b.nh ohc else hvs i), ad183, cp183, h22) ⟨by simp only; omega, by simp only; omega, s18.trans hsx, (hP.mono hsx).snoc hBo hbo⟩ (by simp only; omega) ⟨rfl, rfl, rfl, rfl, rfl, rfl, rfl, gi rfl (by simp only; omega), trivial⟩ (.refl _) inferInstance
          · skip
            refine en_nil <| en_then <| en_seq <| en_region <| en_det (opT_fieldAddr rfl) rfl <| en_det (opT_load_own rfl rfl) rfl <| en_det (opT_move rfl) rfl <| ?_
            first | refine en_det (opT_idx1 rfl rfl (by omega) (by omega)) rfl ?_ | refine en_det (opT_idx (ks := 0) rfl rfl (by omega) (by omega)) rfl ?_
            refine en_det (opT_assign rfl) rfl <| en_nil <| en_then <| en_seq <| en_seq <| en_region <| en_det (opT_move rfl) rfl <| en_nil <| en_then <| en_block <| en_seq <| en_region <| en_det (opT_eql_f rfl rfl (by omega)) rfl <| en_det (opT_assign rfl) rfl <| en_nil <| en_then <| en_cond_f rfl <| en_seq <| en_region <| en_det (opT_eql_f rfl rfl (by omega)) rfl <| en_det (opT_assign rfl) rfl <| en_nil <| en_then <| en_cond_f rfl <| en_draw0 [0, 1, 3, 4, 2, 5, 6] (by kernel_rfl) (by decide +kernel) (by decide +kernel) (by decide) <| dp_p rfl (fun _ _ => opT_move rfl) rfl rfl rfl <| dp_p rfl (fun _ _ => opT_move rfl) rfl rfl rfl <| dp_p rfl (fun _ _ => opT_nilCheck_p rfl) rfl rfl rfl <| dp_p rfl (fun _ _ => opT_fieldAddr rfl) rfl rfl rfl <| ?_
            refine dp_callq (pull_ct h19 c2 v2 y2 5 z19 (by omega)) rfl rfl rfl rfl rfl rfl rfl fun v h20 s20 hv => ?_; obtain ⟨r0, rfl, hr0', _, hr2'⟩ := hv; replace hr2' := hr2' (by omega); obtain ⟨r, rfl⟩ := Int.eq_ofNat_of_zero_le hr0'
            refine dp_p rfl (fun _ _ => opT_idxArr rfl rfl (by omega) (by omega)) rfl rfl rfl <| dp_td0 rfl (opT_store1s rfl rfl rfl (by have := hlen r (by omega); omega)) rfl rfl rfl rfl rfl <| dp_done0 <| ?_
            rw [rows_app_set hin (by omega), hands_set _ _ i0 r _ { b.hand i0 with takes := fun c => if c = r then true else (b.hand i0).takes c } (hcell_take _ _ r (by omega) _)]
            have hbo : Better b (setB b i0 { b.hand i0 with takes := fun c => if c = r then true else (b.hand i0).takes c }) left := set_better left hk ⟨⟨hXk.ok.s0, hXk.ok.s1, hXk.ok.t0, hXk.ok.t1⟩, hXk.sl, hXk.re, hXk.ri⟩ rfl (Int.le_refl _) (Int.le_refl _) fun m _ h => by simp only; split <;> simp [h]
            refine en_pick (box ob 41 (rows b.nh 9 (fun a => hcell ((fun i => if i = i0 then { b.hand i0 with takes := fun c => if c = r then true else (b.hand i0).takes c } else b.hand i) a) (orv a)) ++ otail)) ?_
            refine en_box_own hoc1 hoc2 (by rw [List.length_append, rows_length]; exact hotl) (rows_length _ _ _) ?_
            refine en_freeze_own fun h21 s21 hsh _ => ?_
            refine en_pick (own 31 5 (.slice oad b.nt otc) b.nt (rows b.nt 5 (icell b.tray))) ?_
            refine en_freeze_own fun h22 s22 hst _ => ?_
            have hBo : IsBelt h22 (.agg #[.slice oad b.nt otc, .slice (some ⟨ob, 0, none⟩) b.nh ohc]) (setB b i0 { b.hand i0 with takes := fun c => if c = r then true else (b.hand i0).takes c }) := ⟨_, _, rfl, hst, orv, SlH.mono s22 hsh, fun i hi => by
              have h0 := (hor i hi).mono (s20.trans (s21.trans s22))
              show IsInts h22 (orv i) (if i = i0 then { b.hand i0 with takes := fun c => if c = r then true else (b.hand i0).takes c } else b.hand i).rests
              split
              · rename_i e; subst e; exact h0
              · exact h0⟩
            have hsx := s19.trans (s20.trans (s21.trans s22))
            refine en_keep [own 26 2 (.slice ad k cp) k (rows k 2 (btab tvs hvs)), box b28 26 [.slice oad b.nt otc, .slice (some ⟨ob, 0, none⟩) b.nh ohc], box b10 31 (trayL left), box b9 26 [.slice tad b.nt tcp, .slice had b.nh hcp], Chute c2 v2 y2.length] ?_
            refine en_blk <| en_then <| en_region <| en_det (opT_move rfl) rfl <| ?_
            first | refine en_det (opT_loadW_own rfl rfl) rfl ?_ | refine en_det (opT_loadA_own rfl) rfl ?_
            refine en_op (opT_buildSlice (cs := [.slice oad b.nt otc, .slice (some ⟨ob, 0, none⟩) b.nh ohc]) rfl rfl (by kernel_rfl)) rfl fun _ _ _ _ ⟨b182, e1, e2, e3⟩ => ?_
            subst e1 e3; replace e2 := e2.symm; subst e2
            refine en_app1 rfl rfl rfl rfl rfl rfl rfl (by omega) fun ad183 cp183 hm183 hc183 => ?_
            refine en_det (opT_assign rfl) rfl <| en_nil <| en_blk <| en_then <| en_region <| en_det (opT_add rfl rfl (by constructor <;> omega)) rfl <| en_det (opT_move rfl) rfl <| en_nil <| en_then <| ?_
            rw [belts_snoc]
            exact en_again (k + 1, (fun i => if i = k then .slice oad b.nt otc else tvs i), (fun i => if i = k then .slice (some ⟨ob, 0, none⟩) b.nh ohc else hvs i), ad183, cp183, h22) ⟨by simp only; omega, by simp only; omega, s18.trans hsx, (hP.mono hsx).snoc hBo hbo⟩ (by simp only; omega) ⟨rfl, rfl, rfl, rfl, rfl, rfl, rfl, gi rfl (by simp only; omega), trivial⟩ (.refl _) inferInstance
        · skip
          refine en_exit <| en_then_exit <| en_then_exit <| en_blk_hit <| en_then <| ?_
          exact en_met (k, tvs, hvs, ad, cp, h18) ⟨by simp only; omega, s18, hP⟩ ⟨rfl, rfl, rfl, rfl, trivial⟩ (.refl _) (tkAll _)
      · skip
        refine en_seq <| en_region <| en_det (opT_fieldAddr rfl) rfl <| en_det (opT_load_own rfl rfl) rfl <| en_det (opT_len rfl) rfl <| en_det (opT_gtr_f rfl rfl (by omega)) rfl <| en_nil <| en_then <| en_cond_f rfl <| en_skip <| en_then <| ?_
        exact en_met (1, (fun _ => .slice gad b.nt gtc), (fun _ => .slice ad125 (b.nh + 1) cp125), some ⟨b128, 0, none⟩, 1, h17) ⟨by simp, .refl _, hP17⟩ ⟨rfl, rfl, rfl, rfl, trivial⟩ (.refl _) (tkAll _)
    · skip
      obtain ⟨k, tvs, hvs, ad, cp, h18⟩ := x
      obtain ⟨hk4, s18, hP⟩ := hx
      simp only at hk4 s18 hP
      change En _ _ _ [(10, pt b10), (12, .int .i64 (mostA b)), (14, .bool (cleanB b (keptD left) (allH b))), (25, .slice ad k cp)] h18 [own 26 2 (.slice ad k cp) k (rows k 2 (btab tvs hvs)), box b10 31 (trayL left), box b9 26 [.slice tad b.nt tcp, .slice had b.nh hcp], Chute c2 v2 y2.length]
      refine en_freeze_own fun h19 s19 hsl _ => ?_
      have hP := hP.mono s19
      obtain ⟨_, _, _, hvv, _, _, hpc⟩ := hsl
      cases hvv
      refine en_keep [box b10 31 (trayL left)] ?_
      refine en_seq <| en_seq <| en_region <| en_det (opT_move rfl) rfl <| en_det (opT_len rfl) rfl <| en_det (opT_move rfl) rfl <| en_nil <| en_then <| en_block <| ?_
      refine en_loop (fun x : Nat × Heap => x.1 ≤ k ∧ h19.sub x.2) (fun x => [(10, pt b10), (12, .int .i64 (mostA b)), (14, .bool (cleanB b (keptD left) (allH b))), (185, .slice ad k cp), (186, .int .i64 k), (187, .int .i64 x.1)]) (fun x => x.2) (fun _ => [box b10 31 (trayL left)]) (fun x => k - x.1) (0, h19) ⟨by simp, .refl _⟩ ⟨rfl, rfl, rfl, rfl, rfl, rfl, trivial⟩ (.refl _) (tkAll _) fun x hx => ?_
      obtain ⟨j, h20⟩ := x
      obtain ⟨hj, s20⟩ := hx
      simp only at hj s20
      change En _ _ _ [(10, pt b10), (12, .int .i64 (mostA b)), (14, .bool (cleanB b (keptD left) (allH b))), (185, .slice ad k cp), (186, .int .i64 k), (187, .int .i64 j)] h20 [box b10 31 (trayL left)]
      refine en_seq <| en_region <| ?_
      first | refine en_det (opT_lss_t rfl rfl (by omega)) rfl ?_ | refine en_det (opT_lss_f rfl rfl (by omega)) rfl ?_ | refine en_det (opT_lss rfl rfl) rfl ?_
      refine en_nil <| en_then <| en_seq <| ?_
      refine en_if rfl (fun hlt9 => ?_) (fun hlt9 => ?_)
      · skip
        have hjk : j < k := by omega
        obtain ⟨o, hBo, hbo⟩ := hP j hjk
        have hBo := hBo.mono s20
        obtain ⟨bb, boff, rfl, bcells⟩ := hpc (by omega)
        have hrow : CellsH h20 bb (boff + j * 2) [tvs j, hvs j] := (bcells.row hjk).mono s20
        obtain ⟨tv', hv', e, ⟨_, oad, ocp, ht', _⟩, ⟨_, ⟨_, ohad, ohcp, hh', _⟩, _⟩⟩ := id hBo
        simp only [Value.agg.injEq, Array.mk.injEq, List.cons.injEq, and_true] at e
        obtain ⟨e1, e2⟩ := e
        rw [e1, e2, ht', hh'] at hrow hBo
        clear e1 e2 ht' hh'
        have hzo := kept_ok hbo.ok hl
        have hco : checkD o = 0 := check_ok.2 hbo.ok
        have hmo := hbo.most
        have hclo := hbo.clean
        have hno := mostA_bound hbo.ok
        refine en_skip <| en_then <| en_seq <| en_block <| en_seq <| en_region <| ?_
        first | refine en_det (opT_idx1 rfl rfl (by omega) (by omega)) rfl ?_ | refine en_det (opT_idx (ks := 0) rfl rfl (by omega) (by omega)) rfl ?_
        refine en_det (opT_loadA_h rfl hrow rfl) rfl <| en_alloc rfl fun b31 => ?_
        refine en_det0 (opT_storeW rfl rfl rfl rfl (by simp [Value.oneCell'])) <| en_nil <| en_then <| en_seq <| en_region <| ?_
        first | refine en_det (opT_loadW_own rfl rfl) rfl ?_ | refine en_det (opT_loadA_own rfl) rfl ?_
        refine en_call (most21_ct h20 _ _ o hBo) rfl rfl rfl rfl fun v h21 Γ' s21 hv => ?_
        obtain ⟨rfl, ⟨_, lv', rfl, _⟩ | ⟨hne, _⟩⟩ := hv
        case inr => exact absurd hco hne
        refine en_norm ?_
        have cO := clean16_ct h21 _ _ o left (hBo.mono s21)
        rw [hzo, if_pos rfl] at cO
        refine en_det (opT_move rfl) rfl <| en_det (opT_extract rfl rfl) rfl <| en_det (opT_extract rfl rfl) rfl <| en_det (opT_extract rfl rfl) rfl <| en_det (opT_assign rfl) rfl <| en_det (opT_assign rfl) rfl <| en_det (opT_assign rfl) rfl <| en_nil <| en_then <| en_seq <| en_region <| ?_
        first | refine en_det (opT_loadW_own rfl rfl) rfl ?_ | refine en_det (opT_loadA_own rfl) rfl ?_
        refine en_det (opT_loadW_own rfl (row_length _ _)) rfl <| ?_
        refine en_call cO rfl rfl rfl rfl fun v h22 Γ' s22 hv => ?_
        obtain ⟨rfl, rfl⟩ := hv
        refine en_norm ?_
        generalize cleanB b (keptD left) (allH b) = cb at hclo ⊢
        generalize cleanB o (keptD left) (allH o) = co at hclo ⊢
        skip
        cases cb with
        | true =>
          have := hclo rfl
          subst this
          refine en_det (opT_move rfl) rfl <| en_det (opT_extract rfl rfl) rfl <| en_det (opT_extract rfl rfl) rfl <| en_det (opT_assign rfl) rfl <| en_det (opT_assign rfl) rfl <| en_nil <| en_then <| en_seq <| en_region <| en_det (opT_move rfl) rfl <| en_det (opT_neq_f rfl rfl (by omega)) rfl <| en_det (opT_move rfl) rfl <| en_g_yes rfl rfl <| en_det (opT_move rfl) rfl <| en_g_yes rfl rfl <| en_det (opT_neq_f rfl rfl (by omega)) rfl <| ?_
          first | refine en_det (opT_pick_t rfl rfl) rfl ?_ | refine en_det (opT_pick_f rfl rfl) rfl ?_
          refine en_det (opT_move rfl) rfl <| en_g_yes rfl rfl <| en_det (opT_move rfl) rfl <| en_g_yes rfl rfl <| en_det (opT_move rfl) rfl <| en_g_yes rfl rfl <| en_det (opT_lss_f rfl rfl (by omega)) rfl <| ?_
          first | refine en_det (opT_pick_t rfl rfl) rfl ?_ | refine en_det (opT_pick_f rfl rfl) rfl ?_
          refine en_det (opT_move rfl) rfl <| en_g_yes rfl rfl <| en_det (opT_move rfl) rfl <| en_g_yes rfl rfl <| en_det (opT_move rfl) rfl <| en_g_yes rfl rfl <| en_det (opT_move rfl) rfl <| en_g_yes rfl rfl <| ?_
          first | refine en_det (opT_not_t rfl) rfl ?_ | refine en_det (opT_not_f rfl) rfl ?_ | refine en_det (opT_not rfl) rfl ?_
          refine en_g_yes rfl rfl <| ?_
          first | refine en_det (opT_pick_t rfl rfl) rfl ?_ | refine en_det (opT_pick_f rfl rfl) rfl ?_
          first | refine en_det (opT_pick_t rfl rfl) rfl ?_ | refine en_det (opT_pick_f rfl rfl) rfl ?_
          refine en_nil <| en_then <| en_cond_f rfl <| en_skip <| en_blk <| en_then <| en_region <| en_det (opT_add rfl rfl (by constructor <;> omega)) rfl <| en_det (opT_move rfl) rfl <| en_nil <| en_then <| ?_
          exact en_again (j + 1, h22) ⟨by simp only; omega, s20.trans (s21.trans s22)⟩ (by simp only; omega) ⟨rfl, rfl, rfl, rfl, rfl, gi rfl (by simp), trivial⟩ (.refl _) inferInstance
        | false =>
          refine en_det (opT_move rfl) rfl <| en_det (opT_extract rfl rfl) rfl <| en_det (opT_extract rfl rfl) rfl <| en_det (opT_assign rfl) rfl <| en_det (opT_assign rfl) rfl <| en_nil <| en_then <| en_seq <| en_region <| en_det (opT_move rfl) rfl <| en_det (opT_neq_f rfl rfl (by omega)) rfl <| en_det (opT_move rfl) rfl <| en_g_yes rfl rfl <| en_det (opT_move rfl) rfl <| en_g_yes rfl rfl <| en_det (opT_neq_f rfl rfl (by omega)) rfl <| ?_
          first | refine en_det (opT_pick_t rfl rfl) rfl ?_ | refine en_det (opT_pick_f rfl rfl) rfl ?_
          refine en_det (opT_move rfl) rfl <| en_g_yes rfl rfl <| en_det (opT_move rfl) rfl <| en_g_yes rfl rfl <| en_det (opT_move rfl) rfl <| en_g_yes rfl rfl <| en_det (opT_lss_f rfl rfl (by omega)) rfl <| ?_
          first | refine en_det (opT_pick_t rfl rfl) rfl ?_ | refine en_det (opT_pick_f rfl rfl) rfl ?_
          refine en_det (opT_move rfl) rfl <| en_g_yes rfl rfl <| en_det (opT_move rfl) rfl <| en_g_yes rfl rfl <| en_det (opT_move rfl) rfl <| en_g_no rfl rfl rfl <| en_g_no rfl rfl rfl <| en_g_yes rfl rfl <| ?_
          first | refine en_det (opT_pick_t rfl rfl) rfl ?_ | refine en_det (opT_pick_f rfl rfl) rfl ?_
          first | refine en_det (opT_pick_t rfl rfl) rfl ?_ | refine en_det (opT_pick_f rfl rfl) rfl ?_
          refine en_nil <| en_then <| en_cond_f rfl <| en_skip <| en_blk <| en_then <| en_region <| en_det (opT_add rfl rfl (by constructor <;> omega)) rfl <| en_det (opT_move rfl) rfl <| en_nil <| en_then <| ?_
          exact en_again (j + 1, h22) ⟨by simp only; omega, s20.trans (s21.trans s22)⟩ (by simp only; omega) ⟨rfl, rfl, rfl, rfl, rfl, gi rfl (by simp), trivial⟩ (.refl _) inferInstance
      · skip
        refine en_exit <| en_then_exit <| en_then_exit <| en_blk_hit <| en_then <| en_seq <| en_region <| ?_
        refine en_call (awake_ct h20) rfl rfl rfl rfl fun v h21 Γ' s21 hv => ?_
        obtain ⟨rfl, rfl⟩ := hv
        refine en_norm ?_
        refine en_det (opT_assign rfl) rfl <| en_nil <| en_then <| en_ret <| ?_
        refine en_return (rs := [.tmp 6]) rfl (.cons (.tmp rfl) .nil) (s1.trans (s2.trans (s3.trans (s4.trans (s5.trans (s6.trans (s711.trans (s1217.trans (s18.trans (s19.trans (s20.trans s21))))))))))) (Γ1 := []) ⟨rfl, rfl⟩
end Go.Sx

/- BeltMore: whatever the bytes and the number, the law answers true; no condition. -/
namespace Go.Proofs.Ytennphpnklkogaa
open Go.Sx Go.ChangeShapes Go.WideShapes Go.ChangeAt Go.RowKit
set_option maxRecDepth 100000
theorem own_none : ownKnob Try.prog.godebug = none := by kernel_rfl
theorem laid_out : laidOutB Try.prog = true := by kernel_rfl
theorem cells_u8 : Try.prog.cellsOf 5 = 1 := by kernel_rfl
theorem bytes_u8 : Try.prog.bytesOf 5 = 1 := by kernel_rfl
theorem more_lifted (os : Os) (started : os.Started) (H : Type) (enc : TypeId × Value → H) :
    ReturnsInHanded {} Try.checked os 4 .any (Rows.beltMoreSpec.pre6 enc Try.prog Try.f4 Rows.beltMoreRow.domain false) (Rows.beltMoreSpec.post enc Try.prog Try.f4 false true false false) := by
  refine returnsInHanded_of_change_sized (C := Try.checked) own_none started (by kernel_rfl) Try.func4
    (ChangeSpec.witness6 (enc := enc) (C := Try.checked) false ⟨#[], #[.slice none 0 0, .slice none 0 0, .int .u8 0], []⟩ 8 (by kernel_rfl) (by kernel_rfl) (by kernel_rfl) (by kernel_rfl)) ?_
  intro W base args ds gs before hval0 hW _ hsz0 _
  have hsz : (DataW.weightsEach Try.prog (Try.f4.params.toList ++ Rows.beltMoreSpec.plain.varTypes Try.prog) (ds ++ gs)).all (· ≤ reachBytes) = true := hsz0
  have hval : ∀ (j : Nat) t v, Try.f4.params[j]? = some t → args[j]? = some v → Value.okWide Try.prog W .any base t v := hval0
  clear hsz0 hval0
  have hW' := hW
  obtain ⟨p, q, hA0, hV, rfl, _, _⟩ := hW
  have hA : DataW.TrodAll enc Try.prog W 0 (fun _ => true) true Try.f4.params.toList args.toList ds p := hA0
  rw [Try.params4] at hA hval hsz
  obtain ⟨v1, vs1, d1, ds1, p1, q1, e1, rfl, rfl, h1, r1⟩ := trodAll_cons hA
  obtain ⟨v2, vs2, d2, ds2, p2, q2, rfl, rfl, rfl, h2, r2⟩ := trodAll_cons r1
  obtain ⟨v3, vs3, d3, ds3, p3, q3, rfl, rfl, rfl, h3, r3⟩ := trodAll_cons r2
  obtain ⟨rfl, rfl, rfl⟩ := trodAll_nil r3
  obtain rfl : args = #[v1, v2, v3] := by cases args; simp_all
  obtain ⟨y1, hy1⟩ := open_bytes Try.underlying22 Try.underlying5 cells_u8 bytes_u8 (hval 0 22 v1 rfl rfl) h1 (fun el sp hd => sized_slice hsz (j := 0) (t := 22) (e := 5) rfl (by simp [hd]) Try.underlying22)
  obtain ⟨y2, hy2⟩ := open_bytes Try.underlying22 Try.underlying5 cells_u8 bytes_u8 (hval 1 22 v2 rfl rfl) h2 (fun el sp hd => sized_slice hsz (j := 1) (t := 22) (e := 5) rfl (by simp [hd]) Try.underlying22)
  obtain ⟨w, rfl, rfl, rfl, hw⟩ := open_int Try.underlying5 (hval 2 5 v3 rfl rfl) h3
  have hw' : 0 ≤ w ∧ w ≤ 255 := by simpa [Lit.wf, IntKind.min, IntKind.max, IntKind.signed, IntKind.bits] using hw
  exact law_calls laid_out (by kernel_rfl) rfl ⟨4, rfl, Try.underlying4⟩ rfl hW' (Go.Sx.more_ct _ v1 v2 y1 y2 w hy1 hy2 hw')
theorem beltMore_holds : Rows.BeltMoreSaid :=
  OpenClaim.holds_of_wide 4 Try.f4 rfl rfl rfl rfl rfl rfl rfl ⟨rfl, rfl, rfl, rfl, rfl⟩ rfl rfl rfl rfl rfl (by kernel_rfl) Try.func4 (by kernel_rfl)
    (of_decide_eq_true (by kernel_rfl)) (by unfold Func.isWrapper; first | (rw [if_pos (by decide +kernel)]; kernel_rfl) | (rw [if_neg (by decide +kernel)]; exact ⟨rfl, rfl⟩))
    (fun os started H enc _ => more_lifted os started H enc)
end Go.Proofs.Ytennphpnklkogaa
