-- Out of the translation, by this session's program over the printer's; Lean checks it.
import Derived.Test.YtfpcgcmajdebmaaDoorPx0
import Derived.Test.YtfpcgcmajdebmaaDoorPx1
import Derived.Test.YtfpcgcmajdebmaaDoorPx7
import Derived.Test.YtfpcgcmajdebmaaDoorPx8
import Derived.Test.YtfpcgcmajdebmaaDoorPx10
namespace Go.Proofs.YtfpcgcmajdebmaaDoor.P
open Go.RowKit Go.Proofs.YtfpcgcmajdebmaaDoorW.PrintWords Go.Proofs.YtfpcgcmajdebmaaDoorW.PrintLast Go.Proofs.YtfpcgcmajdebmaaDoorW.PrintMore
attribute [local go_sem] max2_int min2_int max_two min_two max_three min_three max_four min_four   -- for this text's walks alone
set_option linter.unusedVariables false
set_option linter.unusedSimpArgs false

/-! ### impl_BestTree: function 6 -/
def impl_BestTree.f (a0_0 a0_1 : Int) : Option (ByteArray × Bool) := (impl_isSmall.f a0_0 a0_1 4).bind fun b => if b = true then (impl_asker_best.f a0_0 a0_1 6 0 0).bind fun s => some (s, true) else some (⟨#[]⟩, false)
set_option maxHeartbeats 4000000 in
set_option maxRecDepth 100000 in
theorem impl_BestTree.calls (a0_0 a0_1 : Int) (r1 : ByteArray) (r2 : Bool) (w : World) (h : impl_BestTree.f a0_0 a0_1 = some (r1, r2)) :
    Calls Tryd.prog 6 #[.agg #[.int .i64 a0_0, .int .i64 a0_1]] w fun e w' => e = .returned (.tuple #[.string r1, .bool r2]) ∧ Below w.heap.size w w' := by
  have hu := Tryd.underlying26
  have huk := Tryd.underlying36
  unfold impl_BestTree.f at h
  obtain ⟨b, hb, h⟩ := Option.bind_eq_some_iff.mp h
  have AS := Aside0.mk hb
  cases b with
  | false =>
    obtain ⟨rfl, rfl⟩ := Prod.mk.inj (Option.some.inj h)
    clear h hb
    go_enter Tryd.func6, Tryd.ntmps6
    go_wp2_with (first | ((with_reducible refine gate_dst (N := 1) rfl ?_); refine box_event ?hg (N := 1) ?hd (cs := #[.int .i64 a0_0, .int .i64 a0_1]) (t := 26) ?hr ?_; (case hd => rfl); (case hg => rfl); (case hr => first | (go_simp; done) | (go_simp; rfl)); intro gb hg w1 hbox hb; have HB1 := Aside0.mk hb; have RK := Aside0.mk hbox; clear hg hbox hb; have k0 := (blk_cell RK.out 0).trans rfl; have k1 := (blk_cell RK.out 1).trans rfl) | (go_at_call 9; (with_reducible refine (impl_isSmall.calls a0_0 a0_1 4 _ _ AS.out).mono ?_); rintro e w2 ⟨rfl, hb2⟩; have HB2 := Aside0.mk (below_step HB1.out hb2); have RK2 := Aside0.mk (blk_below RK.out hb2); clear hb2; have k0 := (blk_cell RK2.out 0).trans rfl; have k1 := (blk_cell RK2.out 1).trans rfl))
    go_ret2
    exact ⟨rfl, HB2.out⟩
  | true =>
    rw [if_pos rfl] at h
    obtain ⟨s, hs, h⟩ := Option.bind_eq_some_iff.mp h
    obtain ⟨rfl, rfl⟩ := Prod.mk.inj (Option.some.inj h)
    have AF := Aside0.mk hs
    clear h hb hs
    go_enter Tryd.func6, Tryd.ntmps6
    go_wp2_with (first | ((with_reducible refine gate_dst (N := 1) rfl ?_); refine box_event ?hg (N := 1) ?hd (cs := #[.int .i64 a0_0, .int .i64 a0_1]) (t := 26) ?hr ?_; (case hd => rfl); (case hg => rfl); (case hr => first | (go_simp; done) | (go_simp; rfl)); intro gb hg w1 hbox hb; have HB1 := Aside0.mk hb; have RK := Aside0.mk hbox; clear hg hbox hb; have k0 := (blk_cell RK.out 0).trans rfl; have k1 := (blk_cell RK.out 1).trans rfl) | (go_at_call 9; (with_reducible refine (impl_isSmall.calls a0_0 a0_1 4 _ _ AS.out).mono ?_); rintro e w2 ⟨rfl, hb2⟩; have HB2 := Aside0.mk (below_step HB1.out hb2); have RK2 := Aside0.mk (blk_below RK.out hb2); clear hb2; have k0 := (blk_cell RK2.out 0).trans rfl; have k1 := (blk_cell RK2.out 1).trans rfl) | (go_at_call 10; (with_reducible refine (impl_Table_asking.calls a0_0 a0_1 (impl_asker_left.R a0_0 a0_1) (fun _ _ _ => True) _).mono ?_); rintro e w3 ⟨g, BD, BS, rfl, hS, hg, hd, hs, hb3⟩; have HS := Aside0.mk hS; have HG := Aside0.mk (And.intro hd hs); have HB3 := Aside0.mk (below_step HB2.out hb3); have HW := Aside0.mk HB2.out.size; clear hS hg hd hs hb3) | (go_at_call 11; (with_reducible refine (impl_asker_best.calls a0_0 a0_1 (fun _ _ _ => True) g BD BS 6 0 0 s 0 _ AF.out (by decide) (by decide) HS.out (by decide)).mono ?_); rintro e w4 ⟨rfl, hS4, hg4⟩; have G4 := Aside0.mk hg4; clear hS4 hg4))
    go_ret2
    exact ⟨rfl, pw_below_grown HB3.out _ HB3.out.size G4.out (by intro k hk; cases hk; exact Nat.le_trans HW.out HG.out.1)⟩

end Go.Proofs.YtfpcgcmajdebmaaDoor.P
