/- Written by a program of this session (a turned copy of the kit's print): a contract for each Go function. No condition beside those in each statement. -/
import Derived.Test.YtnlhjblfemgggaaPFnExactMovedx0
namespace Go.Proofs.Ytnlhjblfemgggaa.PFnExactMoved
open Go.RowKit Go.Proofs.YtnlhjblfemgggaaW.PrintWords Go.Proofs.YtnlhjblfemgggaaW.PrintLast Go.Proofs.YtnlhjblfemgggaaW.PrintMore
attribute [local go_sem] max2_int min2_int max_two min_two max_three min_three max_four min_four   -- for this text's walks alone
set_option linter.unusedVariables false
set_option linter.unusedSimpArgs false

/-! ### laws_eqValue: function 35 -/
def laws_eqValue.f (a0_0 : Int) (a0_1 : Int) (a1_0 : Int) (a1_1 : Int) : Option (Bool) := if a0_0 = a1_0 then (if a0_1 = a1_1 then (some true) else (some false)) else (some false)
set_option maxHeartbeats 8000000 in
set_option maxRecDepth 100000 in
theorem laws_eqValue.calls (a0_0 : Int) (a0_1 : Int) (a1_0 : Int) (a1_1 : Int) (r : Bool) (w : World) (h : laws_eqValue.f a0_0 a0_1 a1_0 a1_1 = some r) :
  Calls Try.prog 35 #[.agg #[.int .i64 a0_0, .int .i64 a0_1], .agg #[.int .i64 a1_0, .int .i64 a1_1]] w fun e w' => e = .returned (.bool r) ∧ Below w.heap.size w w' := by
 have hu37 := Try.underlying37; have HB := As.mk (Below.refl w.heap.size w); have H : (if a0_0 = a1_0 then (if a0_1 = a1_1 then (some true) else (some false)) else (some false)) = some r := h; clear h
 by_cases c3 : a0_0 = a1_0
 rotate_left
 ·
  rw [if_neg c3] at H; have c3b0 : (a0_0 == a1_0) = false := beq_eq_false_iff_ne.mpr c3; have c3b1 : (a0_0 != a1_0) = true := bne_iff_ne.mpr c3; obtain rfl := sj H; go_enter Try.func35, Try.ntmps35
  go_wp2_with (first | ((with_reducible refine gate_dst (N := 2) rfl ?_); refine bxe 2 #[.int .i64 a0_0, .int .i64 a0_1] 37 ?_; intro gb277 hg w15 BK277 hb; have GW277 := As.mk (gs w hg); replace HB := bs w hb; clear hb hg) | ((with_reducible refine gate_dst (N := 3) rfl ?_); refine bxe 3 #[.int .i64 a1_0, .int .i64 a1_1] 37 ?_; intro gb278 hg w16 BK278 hb; have GW278 := As.mk (gs w hg); replace HB := bs w hb; have NB277_278 := As.mk (nl hg (bx BK277.out)); have NB278_277 := As.mk (ng hg (bx BK277.out)); replace BK277 := bb BK277 hb; clear hb hg; have hnb17 := NB277_278.out; have hnc17 := NB278_277.out; obtain ⟨y18a, y18b, v18a, v18b⟩ := cl2 BK277.out; obtain ⟨y19a, y19b, v19a, v19b⟩ := cl2 BK278.out))
  go_ret
  exact ⟨ez, be w⟩

 rw [if_pos c3] at H; have c3b0 : (a0_0 == a1_0) = true := beq_iff_eq.mpr c3; have c3b1 : (a0_0 != a1_0) = false := bne_eq_false_iff_eq.mpr c3; clear c3
 by_cases c4 : a0_1 = a1_1
 ·
  rw [if_pos c4] at H; have c4b0 : (a0_1 == a1_1) = true := beq_iff_eq.mpr c4; have c4b1 : (a0_1 != a1_1) = false := bne_eq_false_iff_eq.mpr c4; clear c4; obtain rfl := sj H; go_enter Try.func35, Try.ntmps35
  go_wp2_with (first | ((with_reducible refine gate_dst (N := 2) rfl ?_); refine bxe 2 #[.int .i64 a0_0, .int .i64 a0_1] 37 ?_; intro gb277 hg w5 BK277 hb; have GW277 := As.mk (gs w hg); replace HB := bs w hb; clear hb hg) | ((with_reducible refine gate_dst (N := 3) rfl ?_); refine bxe 3 #[.int .i64 a1_0, .int .i64 a1_1] 37 ?_; intro gb278 hg w6 BK278 hb; have GW278 := As.mk (gs w hg); replace HB := bs w hb; have NB277_278 := As.mk (nl hg (bx BK277.out)); have NB278_277 := As.mk (ng hg (bx BK277.out)); replace BK277 := bb BK277 hb; clear hb hg; have hnb7 := NB277_278.out; have hnc7 := NB278_277.out; obtain ⟨y8a, y8b, v8a, v8b⟩ := cl2 BK277.out; obtain ⟨y9a, y9b, v9a, v9b⟩ := cl2 BK278.out))
  go_ret
  exact ⟨ez, be w⟩
 rw [if_neg c4] at H; have c4b0 : (a0_1 == a1_1) = false := beq_eq_false_iff_ne.mpr c4; have c4b1 : (a0_1 != a1_1) = true := bne_iff_ne.mpr c4; obtain rfl := sj H; go_enter Try.func35, Try.ntmps35
 go_wp2_with (first | ((with_reducible refine gate_dst (N := 2) rfl ?_); refine bxe 2 #[.int .i64 a0_0, .int .i64 a0_1] 37 ?_; intro gb277 hg w10 BK277 hb; have GW277 := As.mk (gs w hg); replace HB := bs w hb; clear hb hg) | ((with_reducible refine gate_dst (N := 3) rfl ?_); refine bxe 3 #[.int .i64 a1_0, .int .i64 a1_1] 37 ?_; intro gb278 hg w11 BK278 hb; have GW278 := As.mk (gs w hg); replace HB := bs w hb; have NB277_278 := As.mk (nl hg (bx BK277.out)); have NB278_277 := As.mk (ng hg (bx BK277.out)); replace BK277 := bb BK277 hb; clear hb hg; have hnb12 := NB277_278.out; have hnc12 := NB278_277.out; obtain ⟨y13a, y13b, v13a, v13b⟩ := cl2 BK277.out; obtain ⟨y14a, y14b, v14a, v14b⟩ := cl2 BK278.out))
 go_ret
 exact ⟨ez, be w⟩
end Go.Proofs.Ytnlhjblfemgggaa.PFnExactMoved
